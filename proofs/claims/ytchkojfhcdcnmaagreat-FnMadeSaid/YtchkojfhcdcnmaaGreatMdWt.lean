/- A text of its own: Wt; no condition but those that each theorem names. -/
import Derived.Test.YtchkojfhcdcnmaaGreatMdEnv
import Derived.Test.YtchkojfhcdcnmaaGreatMdEvWt
import Derived.KernelRfl
namespace Go.Proofs.YtchkojfhcdcnmaaGreatMd.Ev
open Go
set_option maxRecDepth 100000
set_option autoImplicit false
set_option linter.unusedVariables false
noncomputable section
def E0:Env:= {E1 with ext:=fun _=>none,clone:=fun _=>none,grow:=fun _=>none,tab:= []}
abbrev M0:Oracle E0:=Lm E0
variable (O : Oracle E0)
def znn (a0:List (Bool×(List Int)×(List Int)×Unit)) (a1:List Value):Option (((List (Bool×Value×Value×Unit))×Unit)×(Unit)):=O.C 38654705893 (a0,a1,())
def zvX:Code:=Code.part (bodyOf 229) [1,1,0,1,0,0]
def zeM (a0:List Value) (a1:List (Bool×Value×Value×Unit)) (a2:List (Bool×(List Int)×(List Int)×Unit)) (a3 a4:Int):Option (((List (Bool×Value×Value×Unit))×Unit)⊕(((List (Bool×Value×Value×Unit))×Unit)×(Unit))):=O.L 38654705893 zoJ zvX (a0,a1,a2,a3,a4,())
def zgC (a0:List Value) (a1:List (Bool×Value×Value×Unit)) (a2:List (Bool×(List Int)×(List Int)×Unit)) (a3 a4:Int):Option (((List (Bool×Value×Value×Unit))×Unit)⊕(((List (Bool×Value×Value×Unit))×Unit)×(Unit))):=
  (if (decide (a4<a3))=true then ((idx a2 a4).bind fun x1=>((idx a0 (IntKind.i64.wrap ((2:Int)*a4))).bind fun x2=>((idx a0 (IntKind.i64.wrap ((IntKind.i64.wrap ((2:Int)*a4))+(1:Int)))).bind fun x3=>(if (List.length a1+List.length ([(x1.1,x2,x3,())]:List (Bool×Value×Value×Unit)))*56<=140737488355328 then (zeM O a0 (a1++([(x1.1,x2,x3,())]:List (Bool×Value×Value×Unit))) a2 a3 (IntKind.i64.wrap (a4+(1:Int)))) else none)))) else (some (.inl (a1,()))))
theorem zoK (a0 a1 a2 a3 a4) {r} (h:zgC M0 a0 a1 a2 a3 a4=some r):zeM M0 a0 a1 a2 a3 a4=some r:=fxL (fun O=>(by kernel_rfl:zeM (Φ E0 O) a0 a1 a2 a3 a4=zgC O a0 a1 a2 a3 a4)) h
def znh (a0:List (Bool×(List Int)×(List Int)×Unit)) (a1:List Value):Option (((List (Bool×Value×Value×Unit))×Unit)×(Unit)):=
  ((zeM O a1 [] a0 (List.length a0:Int) (0:Int)).bind (Sum.elim (fun y1=>(some ((y1.1,()),()))) (fun r2=>(some r2))))
theorem zyd (a0 a1) {r} (h:znh M0 a0 a1=some r):znn M0 a0 a1=some r:=fxC (fun O=>(by kernel_rfl:znn (Φ E0 O) a0 a1=znh O a0 a1)) h
theorem zEm {x:Int} (h: -9223372036854775808<=x) (k:x<9223372036854775808):IntKind.i64.wrap x=x:=by
  simp only [IntKind.wrap,IntKind.signed,IntKind.bits];simp;omega
theorem zKU (vs:List Value) (c:List CL) (hc:c.length<=1000000) (hl:2*c.length<=vs.length): ∀k i:Nat,i+k=c.length-> ∀o:List (Bool×Value×Value×Unit),o.length=i->zeM M0 vs o c c.length i=some (.inl (o++wtZ (c.drop i) (vs.drop (2*i)),())):=by
  intro k
  induction k with
  | zero=>
    intro i hi o ho;obtain rfl:i=c.length:=by omega
    exact zoK _ _ _ _ _ (by simp [zgC,wtZ])
  | succ k ih=>
    intro i hi o ho;have h1:i<c.length:=by omega
    have h2:2*i<vs.length:=by omega
    have h3:2*i+1<vs.length:=by omega
    apply zoK;simp only [zgC];rw [qb (by simpa using h1)];rw [zEm (x:=2*(i:Int)) (by omega) (by omega),show (2*(i:Int))=((2*i:Nat):Int) by omega,zEm (x:=((2*i:Nat):Int)+1) (by omega) (by omega),show ((2*i:Nat):Int)+1=((2*i+1:Nat):Int) by omega,zEm (x:=(i:Int)+1) (by omega) (by omega)];have i1:idx c (i:Int)=some c[i]:=by simp [idx,h1]
    have i2:idx vs ((2*i:Nat):Int)=some vs[2*i]:=by simp only [idx];rw [qb (by omega),qo,qu h2]
    have i3:idx vs ((2*i+1:Nat):Int)=some vs[2*i+1]:=by simp only [idx];rw [qb (by omega),qo,qu h3]
    rw [i1,i2,i3];simp only [qa];rw [qb (by simp;omega),show (i:Int)+1=((i+1:Nat):Int) by omega,ih (i+1) (by omega) _ (by simp [ho])];rw [qj h1,qj h2,qj h3];simp only [wtZ,qE,List.singleton_append];rw [show 2*i+1+1=2*(i+1) by omega]
theorem wq (c:List CL) (vs:List Value) (hc:c.length<=1000000) (hl:2*c.length<=vs.length):znn M0 c vs=some ((wtZ c vs,()),()):=by
  apply zyd;have:=zKU vs c hc hl c.length 0 (by omega) [] rfl;rw [e0x] at this;simp only [znh,this,qa,qd,qC,qk,Nat.mul_zero]
theorem extOk0:ExtSound E0:=⟨⟨fun f t h=>(by cases h),fun f t h=>(by cases h)⟩,fun f g h=>(by cases h)⟩
theorem mixed0:E0.P.follows .mixedOrders=true:=by kernel_rfl
theorem qcalls:QCalls Tryz.prog 229:=by
  intro c vs w N us hc hl hr hN;obtain ⟨n,hn⟩:=Lm_C.1 (wq c vs hc hl:(Lm E0).C 38654705893 (c,vs,())=some ((wtZ c vs,()),()));have h0:=(zKH extOk0 mixed0 n).1.2 38654705893 (c,vs,()) ((wtZ c vs,()),()) (hn n (ql _)) w N us [] hr List.nodup_nil (by simp) hN (Env.tabs_nil rfl w N);refine Calls.mono (show Calls Tryz.prog 229 us.toArray w _ from h0) (fun e w' hp=>?_)
  cases e with
  | returned v=>
    obtain ⟨N',rs,G1,G2,D⟩:=hp;have hb:RepBack (memOf w') N' (E0.io 38654705893) (E0.ps 38654705893) () us G2:=D.back;have hn1:=D.nod;have ho:=D.own
    exact ⟨N',rs,G1,D.mv,D.up,fun k hk=>by
      rcases D.new k hk with h | h | h
      · exact .inl h
      · simp at h
      · exact .inr h,D.lt,D.val,D.rep,(qN.1 hn1).1,fun k hk=>by
      have h1:=ho k (qw _ hk);refine ⟨h1.1,h1.2.1,?_⟩;rcases h1.2.2 with h | h
      · simp at h
      · exact h⟩
  | _=>exact hp.elim
theorem extW: ∀(g:(E1.ps 229).den->Option (E1.Ret 229)),E1.ext 229=some g-> ∀(x:(E1.ps 229).den) (yz:E1.Ret 229),g x=some yz-> ∀(w:World) (N:Nat->Prop) (us:List Value) (G:List Nat),RepAs (memOf w) N (E1.ps 229) x us G->G.Nodup->(∀k∈G,k<w.heap.size∧ ¬N k)->(∀k,N k->k<w.heap.size)->E1.tabs w N->
    Calls E1.P (rl 229) us.toArray w (Post fun v w'=> ∃N' rs G1 G2,Done E1 229 yz.1 yz.2 us G N w v w' N' rs G1 G2):=by
  intro g hg
  obtain rfl:g=wtG:=by
    have:some wtG=some g:=hg;exact (qh this).symm
  intro x yz hx w N us G hr hnd hG hN _;obtain ⟨c,xs,⟨⟩⟩:=(x:List CL×List (List Int)×Unit);have hx':(if c.length<=1000000∧2*c.length<=xs.length then some ((wtZ c xs,()),()) else none:Option ((List CL×Unit)×Unit))=some yz:=hx;split at hx'
  · rename_i hcond;obtain rfl:=qh hx';refine Calls.mono (show Calls E1.P (rl 229) us.toArray w _ from zJX qcalls c xs hcond.1 hcond.2 w N us G hr hnd hG hN) (fun e w' hp=>?_)
    cases e with
    | returned v=>
      obtain ⟨N',rs,G1,k1,k2,k3,k4,k5,k6,k7,k8⟩:=hp
      have hl: ∃u1 u2,us= [u1,u2]:=by
        match us,hr with
        | [u1,u2],_=>exact ⟨u1,u2,rfl⟩
      obtain ⟨u1,u2,rfl⟩:=hl
      exact ⟨N',rs,G1,[],k1,k2,k3,k4,k5,k6,rfl,by simpa using k7,by simpa using k8⟩
    | _=>exact hp.elim
  · cases hx'
end
end Go.Proofs.YtchkojfhcdcnmaaGreatMd.Ev
