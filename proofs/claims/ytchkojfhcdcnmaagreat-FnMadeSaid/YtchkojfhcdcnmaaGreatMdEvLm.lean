/- Texts laid together: EvS, EvT, EvU, EvV, EvW, EvX, EvY, EvZ, EvLm; no condition but those that each theorem names. -/
import Derived.Test.YtchkojfhcdcnmaaGreatMdEvR
import Derived.LoopN
import Derived.ChangeArms
import Derived.Below
namespace Go.Proofs.YtchkojfhcdcnmaaGreatMd.Ev
open Go
section
variable {E : Env} {O : Oracle E} {X : Ctx} {o : Oper} {st : St} {R : Type} {K : Eff -> Option R} {r : R}
theorem zHv {m:Mem} {N:Nat->Prop} {s:Sto} {hd:Nat->Value} {vs:List V} {us:List Value} (h:RepVs m N s hd vs us) (h':RepPs m N s hd (vs.map V.pair) us):RepV m N s hd (tupOf vs) (retOf us):=by
 match vs,us,h,h' with
 | [],[],_,_=>exact ⟨[],rfl,trivial⟩
 | [v],[u],h,_=>exact h.1
 | v::v'::vs,u::u'::us,_,h'=>exact ⟨_,rfl,h'⟩
theorem zvr {P:Program} {f:FuncId} (h:callable P f=true) (args:Array Value) (w:World):(callFunc f args).run P w= .ok (.enter f args) w:=by
 unfold callable at h;split at h
 ·rename_i fn hfn;simp only [qq,bne_iff_ne,ne_eq] at h;obtain ⟨c,hc⟩:=Option.isSome_iff_exists.1 h.1;simp [callFunc,hfn,hc,h.2]
 ·cases h
theorem zBj (hT: ∀w N F,Fr X w N F->E.tabs w N) {f b:Nat} {τs ρs:Ty} {io:List Bool} {Fn:τs.den->Option (ρs.den×(ioTy io τs).den)} {args:List V} (h:callT τs ρs io Fn args st.o b K=some r):
  ∃e,K e=some r∧ ∀st':St,(∀i,i∈e.w∨i∈e.r->st'.o i=st.o i)-> ∀(a:Act) w N hd F,InvD X st' a w N hd F-> ∀us:List Value,RepVs (memOf w) N st'.o hd args us-> ∀Ψ:World->Prop,
   (∀(x:τs.den) (yz:ρs.den×(ioTy io τs).den),Fn x=some yz-> ∀(N:Nat->Prop) (G:List Nat),RepAs (memOf w) N τs x us G->G.Nodup->(∀k∈G,k<w.heap.size∧ ¬N k)->(∀k,N k->k<w.heap.size)->E.tabs w N->Calls E.P f us.toArray w (Post fun v w'=>(∃N' rs G1 G2,DoneT τs ρs io yz.1 yz.2 us G N w v w' N' rs G1 G2)∧Ψ w'))->
   Calls E.P f us.toArray w (Post fun v w'=>(∃W s' N' hd' F',Left X st' e w N hd F v w' W s' N' hd' F')∧Ψ w'):=by
 unfold callT at h;split at h
 ·cases h
 ·rename_i p hp;obtain ⟨yz,hyz,h⟩:=qS.1 h;split at h
  ·cases h
  ·rename_i l hl;dsimp only at h;split at h
   ·rename_i hb;refine ⟨_,h,fun st' hi a w N hd F I us hus Ψ hF=>?_⟩
    let lend:=ρs.flat&&(ioTy io τs).flat
    let M:=p.m++l.ids++(injFs ρs yz.1 l.s b).ids
    have hM: ∀i∈M,st'.o i=st.o i:=fun i hi'=>hi i (.inl hi')
    obtain ⟨p2,hp2,x2,m2,g2⟩:=zA8 lend _ _ _ _ _ hp M (fun i hi=>qw _ (qw _ hi)) st'.o hM;obtain ⟨N1,F1,G,j⟩:=zxb lend _ _ _ _ _ hp2 I.s hus
    have hGl: ∀k∈G,k<w.heap.size:=fun k hk=>by
     obtain ⟨⟨i,hi⟩,_⟩:=j.own k hk;exact I.s.ltF i k hi
    have hlt: ∀k,Sn lend N1 p2.s F1 k->k<w.heap.size:=by
     intro k hk
     cases hlend:lend with
     | false=>rw [hlend] at hk;exact j.inv.ltN k hk
     | true=>
      rw [hlend] at hk;rcases hk with hk | ⟨i,_,hk⟩
      ·exact j.inv.ltN k hk
      ·exact j.inv.ltF i k hk
    have hGs: ∀k∈G,¬Sn lend N1 p2.s F1 k:=by
     intro k hk hs;obtain ⟨_,h1,h2⟩:=j.own k hk
     cases hlend:lend with
     | false=>rw [hlend] at hs;exact h1 hs
     | true=>
      rw [hlend] at hs;rcases hs with hs | ⟨i,_,hs⟩
      ·exact h1 hs
      ·exact h2 i hs
    have hrep:=j.rep;rw [x2] at hrep;refine Calls.mono (hF p.x yz hyz _ G hrep j.nod (fun k hk=>⟨hGl k hk,hGs k hk⟩) hlt (Env.tabs_mono (hT w N F I.fr) (fun k hk=>Sn.up (j.up k hk)))) (fun e w' hpost=>?_)
    cases e with
    | returned v=>
     obtain ⟨⟨N2,rs,G1,G2,D⟩,hΨ⟩:=hpost;refine ⟨?_,hΨ⟩;have hmF: ∀i k,k∈F1 i->memOf w' k=memOf w k:=fun i k hk=>D.mv.block k (j.inv.ltF i k hk) (fun hG=>(j.own k hG).2.2 i hk)
     have hmN: ∀k,N1 k->memOf w' k=memOf w k:=fun k hk=>D.mv.block k (j.inv.ltN k hk) (fun hG=>(j.own k hG).2.1 hk)
     obtain ⟨N3,hN13,hN3,hrepR,hrepB,hN3G,hN3n⟩: ∃N3:Nat->Prop,(∀k,N1 k->N3 k)∧(∀k,N3 k->k<w'.heap.size∧ ∀i,k∉F1 i)∧RepAs (memOf w') N3 ρs yz.1 rs G1∧RepBack (memOf w') N3 io τs yz.2 us G2∧(∀k∈G1++G2,¬N3 k)∧
       (∀k,N3 k->N1 k∨k∈G∨w.heap.size<=k):=by
      cases hlend:lend with
      | true=>
       have hfl:ρs.flat=true∧(ioTy io τs).flat=true:=by
        have:(ρs.flat&&(ioTy io τs).flat)=true:=hlend;simpa using this
       refine ⟨N1,fun _ h=>h,fun k hk=>⟨Nat.lt_of_lt_of_le (j.inv.ltN k hk) D.mv.size,fun i hi=>j.inv.sep i k hi hk⟩,D.rep.flat hfl.1,D.back.flat hfl.2,fun k hk hn=>(D.own k hk).2.1 (D.up k (Sn.up hn)),fun k hk=> .inl hk⟩
      | false=>
       have hS: ∀k,Sn lend N1 p2.s F1 k->N1 k:=by rw [hlend];exact fun k hk=>hk
       refine ⟨N2,fun k hk=>D.up k (Sn.up hk),fun k hk=>⟨D.lt k hk,fun i hi=>?_⟩,D.rep,D.back,fun k hk=>(D.own k hk).2.1,fun k hk=>?_⟩
       ·rcases D.new k hk with h1 | h1 | h1
        ·exact j.inv.sep i k hi (hS k h1)
        ·exact (j.own k h1).2.2 i hi
        ·have:=j.inv.ltF i k hi;omega
       ·rcases D.new k hk with h1 | h1 | h1
        ·exact .inl (hS k h1)
        ·exact .inr (.inl h1)
        ·exact .inr (.inr h1)
     have I3:SInv (memOf w') N3 p2.s hd F1 w'.heap.size:=j.inv.widen D.mv.size (fun k hk=>⟨hN13 k hk,hmN k hk⟩) hmF hN3;obtain ⟨I4,g4⟩:=I3.unlend (s0:=st'.o) (fun i hi=>(j.lv i hi).2)
     have hfr:Fresh N3 F1 w'.heap.size (G2++G1):=by
      have hmem: ∀k,k∈G2++G1->k∈G1++G2:=fun k hk=>by
       rcases qr.1 hk with h | h
       ·exact qB _ h
       ·exact qw _ h
      refine ⟨?_,fun k hk=>(D.own k (hmem k hk)).1,fun k hk=>hN3G k (hmem k hk),fun k hk i hi=>?_⟩
      ·have:=qN.1 D.nod;rw [qN];exact ⟨this.2.1,this.1,fun a ha b hb e=>this.2.2 b hb a ha e.symm⟩
      ·rcases (D.own k (hmem k hk)).2.2 with h1 | h1
       ·exact (j.own k h1).2.2 i hi
       ·have:=j.inv.ltF i k hi;omega
     have hg0:Goes st'.o (unlend st'.o p2.s) hd hd:=j.goes.trans g4;have hus':RepVs (memOf w') N3 (unlend st'.o p2.s) hd args us:=RepVs.goes (fun k hk=>⟨hN13 k (j.up k hk),hmN k (j.up k hk)⟩) hg0 hus
     have hul: ∀i∈M,unlend st'.o p2.s i=unlend st.o p.s i:=by
      intro i hi';unfold unlend;rw [g2 i hi',hM i hi']
     obtain ⟨s3,hl2,gl⟩:=zGu _ _ _ _ _ _ _ hl M (fun i hi=>qw _ (qB _ hi)) (unlend st'.o p2.s) hul;obtain ⟨hd5,F5,k5⟩:=zLc _ _ _ _ _ _ _ hl2 I4 hus' hrepB hfr.left;obtain ⟨i1,i2,i3,i4⟩:=zFB ρs yz.1 l.s s3 b M (fun i hi=>qB _ hi) gl;obtain ⟨hd6,F6,k6,r6,q6⟩:=zD3 ρs yz.1 s3 b k5.inv hrepR (hfr.right k5.sub);have hval:=zHv r6 q6;rw [i1] at hval
     have hsub: ∀i k,k∈F6 i->(∃j,k∈F j)∨w.heap.size<=k:=by
      have hG12: ∀k,k∈G1++G2->(∃j,k∈F j)∨w.heap.size<=k:=fun k hk=>by
       rcases (D.own k hk).2.2 with h1 | h1
       ·exact .inl (j.own k h1).1
       ·exact .inr h1
      intro i k hk;rcases k6.sub i k hk with h1 | h1
      ·rcases k5.sub i k h1 with h1 | h1
       ·exact .inl ⟨i,j.sub i k h1⟩
       ·exact hG12 k (qB _ h1)
      ·exact hG12 k (qw _ h1)
     refine ⟨G,(injFs ρs yz.1 s3 b).s,N3,hd6,F6,fun i hi'=>i4 i hi',fun i hi'=>?_,D.mv,fun k hk=>(j.own k hk).1,k6.inv,fun k hk=>hN13 k (j.up k hk),hg0.trans (k5.goes.trans k6.goes),fun k hk=>?_,hsub,?_⟩
     ·have hi1:i∉p.m:=fun h=>hi' (qw _ (qw _ h))
      have hi2:i∉l.ids:=fun h=>hi' (qw _ (qB _ h))
      have hi3:i∉(injFs ρs yz.1 s3 b).ids:=by rw [i3];exact fun h=>hi' (qB _ h)
      have e1:p2.s i=st'.o i:=(j.loc i (by rw [m2];exact hi1)).1;exact (k6.loc i hi3).1.trans ((k5.loc i hi2).1.trans (zGZ e1))
     ·rcases hN3n k hk with h1 | h1 | h1
      ·rcases j.new k h1 with h1 | h1
       ·exact .inl h1
       ·exact .inr (.inl h1)
      ·exact .inr (.inl (j.own k h1).1)
      ·exact .inr (.inr h1)
     ·rw [D.val];exact hval
    | _=>exact hpost.elim
   ·cases h
theorem zIW (hC:CSoundX X E O) {f b:Nat} {args:List V} (h:callK E O f args st.o b K=some r):
  ∃e,K e=some r∧ ∀st':St,(∀i,i∈e.w∨i∈e.r->st'.o i=st.o i)-> ∀(a:Act) w N hd F,InvD X st' a w N hd F-> ∀us:List Value,RepVs (memOf w) N st'.o hd args us->
   Calls E.P (rl f) us.toArray w (Post fun v w'=> ∃W s' N' hd' F',Left X st' e w N hd F v w' W s' N' hd' F'):=by
 obtain ⟨e,hK,hcl⟩:=zBj (X:=X) (E:=E) (f:=rl f) hC.2.1 h;refine ⟨e,hK,fun st' hi a w N hd F I us hus=>?_⟩;refine Calls.mono (hcl st' hi a w N hd F I us hus (fun _=>True) (fun x yz hx N' G hr hn hG hN hT=>Calls.mono (hC.1.2 f x yz hx w N' us G hr hn hG hN hT) (fun e w' hp=>?_))) (fun e w' hp=>?_)
 ·cases e with
  | returned v=>exact ⟨hp,trivial⟩
  | _=>exact hp.elim
 ·cases e with
  | returned v=>exact hp.1
  | _=>exact hp.elim
def HoleIs (m:Mem) (u:Value):Ty->List Value->Prop
 | .opq,cs=>cs= [u]
 | .agg fs,cs=>HoleIs m u fs cs
 | .cons a r,cs=>HoleIs m u a (cs.take a.sz)∧HoleIs m u r (cs.drop a.sz)
 | .box e,cs=> ∀g es T,cs= [.pointer (some ⟨g,0,none⟩)]->m g=some (.cells es T (0,0))->HoleIs m u e es.toList
 | _,_=>True
theorem zyJ: ∀τ:Ty,(unh τ).sz=τ.sz
 | .agg fs=>zyJ fs
 | .cons a r=>by show (unh a).sz+(unh r).sz=a.sz+r.sz;rw [zyJ a,zyJ r]
 | .bool | .int _ | .str | .sl _ | .own _ | .nil | .ptr _ | .box _ | .fn _ _ | .tree | .unk | .map _ | .mv _ | .opq | .imap _ | .iter _ | .optr _ | .sb _ _=>rfl
theorem zF8 (τ:Ty):(unh τ).isAgg=τ.isAgg:=by cases τ<;>rfl
theorem zp8 {m:Mem} {N:Nat->Prop} {u:Value} (hu:u.oneCell'=true): ∀(τ:Ty) (x:(unh τ).den) (cs:List Value) (F:List Nat),RepT m N (unh τ) x cs F->HoleIs m u τ cs->RepT m N τ (infl τ x u) cs F
 | .opq,_,cs,F,h,hh=>by
  obtain ⟨h0,v,h1,h2⟩:=h;have:cs= [u]:=hh
  exact ⟨h0,this,hu⟩
 | .agg fs,x,cs,F,h,hh=>zp8 hu fs x cs F h hh
 | .cons a r,x,cs,F,⟨c1,c2,F1,F2,h1,h2,h3,h4⟩,⟨q1,q2⟩=>by
  have hl:c1.length=a.sz:=by rw [h3.len,zyJ]
  refine ⟨c1,c2,F1,F2,h1,h2,zp8 hu a x.1 c1 F1 h3 ?_,zp8 hu r x.2 c2 F2 h4 ?_⟩
  ·rw [h1,<-hl,List.take_left] at q1;exact q1
  ·rw [h1,<-hl,List.drop_left] at q2;exact q2
 | .box e,x,cs,F,⟨g,es,T,F',h1,h2,h3,h4⟩,hh=>⟨g,es,T,F',h1,h2,zp8 hu e x es F' h3 (by simpa using hh g _ T h1 h2),h4⟩
 | .bool,_,_,_,h,_ | .int _,_,_,_,h,_ | .str,_,_,_,h,_ | .sl _,_,_,_,h,_ | .own _,_,_,_,h,_ | .nil,_,_,_,h,_ | .ptr _,_,_,_,h,_ | .fn _ _,_,_,_,h,_ | .tree,_,_,_,h,_ | .unk,_,_,_,h,_ | .map _,_,_,_,h,_ | .mv _,_,_,_,h,_ | .imap _,_,_,_,h,_ | .iter _,_,_,_,h,_ | .optr _,_,_,_,h,_ | .sb _ _,_,_,_,h,_=>h
theorem zqj {m:Mem} {N:Nat->Prop} {u:Value}: ∀(τ:Ty) (x:(unh τ).den) (cs:List Value) (F:List Nat),RepT m N τ (infl τ x u) cs F->RepT m N (unh τ) x cs F∧HoleIs m u τ cs
 | .opq,_,cs,F,⟨h0,h1,h2⟩=>⟨⟨h0,_,h1,h2⟩,h1⟩
 | .agg fs,x,cs,F,h=>zqj fs x cs F h
 | .cons a r,x,cs,F,⟨c1,c2,F1,F2,h1,h2,h3,h4⟩=>by
  have hl:c1.length=a.sz:=h3.len;obtain ⟨p1,p2⟩:=zqj a x.1 c1 F1 h3;obtain ⟨p3,p4⟩:=zqj r x.2 c2 F2 h4;refine ⟨⟨c1,c2,F1,F2,h1,h2,p1,p3⟩,?_,?_⟩
  ·rw [h1,<-hl,List.take_left];exact p2
  ·rw [h1,<-hl,List.drop_left];exact p4
 | .box e,x,cs,F,⟨g,es,T,F',h1,h2,h3,h4⟩=>by
  obtain ⟨p1,p2⟩:=zqj e x es F' h3;refine ⟨⟨g,es,T,F',h1,h2,p1,h4⟩,fun g' es' T' e1 e2=>?_⟩;rw [h1] at e1;have:g=g':=by simpa using e1
  subst this;rw [h2] at e2;simp only [qI,Go.Obj.cells.injEq] at e2;obtain ⟨rfl,_⟩:=e2
  exact p2
 | .bool,_,_,_,h | .int _,_,_,_,h | .str,_,_,_,h | .sl _,_,_,_,h | .own _,_,_,_,h | .nil,_,_,_,h | .ptr _,_,_,_,h | .fn _ _,_,_,_,h | .tree,_,_,_,h | .unk,_,_,_,h | .map _,_,_,_,h | .mv _,_,_,_,h | .imap _,_,_,_,h | .iter _,_,_,_,h | .optr _,_,_,_,h | .sb _ _,_,_,_,h=>⟨h,trivial⟩
theorem zl9 {m:Mem} {u:Value}: ∀(τ:Ty) (cs:List Value),hasH τ=false->HoleIs m u τ cs
 | .opq,_,h=>by simp [hasH] at h
 | .agg fs,cs,h=>zl9 fs cs h
 | .cons a r,cs,h=>by
  simp only [hasH,Bool.or_eq_false_iff] at h
  exact ⟨zl9 a _ h.1,zl9 r _ h.2⟩
 | .box e,cs,h=>fun _ _ _ _ _=>zl9 e _ h
 | .bool,_,_ | .int _,_,_ | .str,_,_ | .sl _,_,_ | .own _,_,_ | .nil,_,_ | .ptr _,_,_ | .fn _ _,_,_ | .tree,_,_ | .unk,_,_ | .map _,_,_ | .mv _,_,_ | .imap _,_,_ | .iter _,_,_ | .optr _,_,_ | .sb _ _,_,_=>trivial
theorem zzG {m:Mem} {u:Value}: ∀(τ:Ty) (n:Nat) (cs:List Value),oneH τ n=true->cs.length=τ.sz->cs[n]?=some u->HoleIs m u τ cs
 | .opq,n,cs,h,hl,hu=>by
  have hn:n=0:=by simpa [oneH] using h
  subst hn
  match cs,hl with
  | [v],_=>simp at hu;subst hu;rfl
 | .agg fs,n,cs,h,hl,hu=>zzG fs n cs h hl hu
 | .cons a r,n,cs,h,hl,hu=>by
  simp only [oneH] at h;have hl':cs.length=a.sz+r.sz:=hl;split at h
  ·rename_i hn;simp only [qq,Bool.not_eq_true'] at h;exact ⟨zzG a n _ h.1 (by rw [List.length_take];omega) (by rw [List.getElem?_take,qb hn];exact hu),zl9 r _ h.2⟩
  ·rename_i hn;simp only [qq,Bool.not_eq_true'] at h
   exact ⟨zl9 a _ h.2,zzG r _ _ h.1 (by rw [List.length_drop];omega) (by rw [List.getElem?_drop,Nat.add_sub_cancel' (by omega)];exact hu)⟩
 | .bool,_,_,h,_,_ | .int _,_,_,h,_,_ | .str,_,_,h,_,_ | .sl _,_,_,h,_,_ | .own _,_,_,h,_,_ | .nil,_,_,h,_,_ | .ptr _,_,_,h,_,_ | .fn _ _,_,_,h,_,_ | .tree,_,_,h,_,_ | .unk,_,_,h,_,_ | .map _,_,_,h,_,_ | .mv _,_,_,h,_,_ | .imap _,_,_,h,_,_ | .iter _,_,_,h,_,_ | .optr _,_,_,h,_,_ | .sb _ _,_,_,h,_,_ | .box _,_,_,h,_,_=>by simp [oneH] at h
theorem zzE {m:Mem} {u:Value}: ∀(τ:Ty) (n:Nat) (cs:List Value),oneH τ n=true->cs.length=τ.sz->HoleIs m u τ cs->cs[n]?=some u
 | .opq,n,cs,h,hl,hu=>by
  have hn:n=0:=by simpa [oneH] using h
  have hu':cs= [u]:=hu
  subst hn;rw [hu'];rfl
 | .agg fs,n,cs,h,hl,hu=>zzE fs n cs h hl hu
 | .cons a r,n,cs,h,hl,⟨q1,q2⟩=>by
  simp only [oneH] at h;have hl':cs.length=a.sz+r.sz:=hl;split at h
  ·rename_i hn;simp only [qq,Bool.not_eq_true'] at h;have:=zzE a n _ h.1 (by rw [List.length_take];omega) q1
   rwa [List.getElem?_take,qb hn] at this
  ·rename_i hn;simp only [qq,Bool.not_eq_true'] at h;have:=zzE r _ _ h.1 (by rw [List.length_drop];omega) q2
   rwa [List.getElem?_drop,Nat.add_sub_cancel' (by omega)] at this
 | .bool,_,_,h,_,_ | .int _,_,_,h,_,_ | .str,_,_,h,_,_ | .sl _,_,_,h,_,_ | .own _,_,_,h,_,_ | .nil,_,_,h,_,_ | .ptr _,_,_,h,_,_ | .fn _ _,_,_,h,_,_ | .tree,_,_,h,_,_ | .unk,_,_,h,_,_ | .map _,_,_,h,_,_ | .mv _,_,_,h,_,_ | .imap _,_,_,h,_,_ | .iter _,_,_,h,_,_ | .optr _,_,_,h,_,_ | .sb _ _,_,_,h,_,_ | .box _,_,_,h,_,_=>by simp [oneH] at h
theorem zHH {α β:Type} {f:Value->Option α} {mk:β->Value->α} {y:β} (h:hidC f mk=some y): ∀u:Value,u.oneCell'=true->f u=some (mk y u):=by
 unfold hidC at h;split at h
 ·rename_i hc;obtain rfl:=qh h;exact hc.choose_spec
 ·cases h
theorem zyq {m:Mem} {N:Nat->Prop} {u:Value}: ∀(io:List Bool) (τs:Ty) (z:(ioTy io (unh τs)).den) (us:List Value) (F:List Nat),RepBack m N io τs (inflB io τs z u) us F->RepBack m N io (unh τs) z us F
 | true::io,.cons a r,z,v::us,F,⟨F1,F2,e,h1,h2⟩=>by
  refine ⟨F1,F2,e,?_,zyq io r z.2 us F2 h2⟩;unfold RepA at h1 ⊢;rw [zF8];split at h1
  ·rename_i ha;rw [qb ha];obtain ⟨cs,e1,e2⟩:=h1;exact ⟨cs,e1,(zqj a z.1 cs F1 e2).1⟩
  ·rename_i ha;rw [qc ha]
   exact (zqj a z.1 [v] F1 h1).1
 | false::io,.cons a r,z,v::us,F,h=>zyq io r z us F h
 | [],.nil,z,[],F,h=>h
 | true::_,.cons _ _,_,[],_,h | false::_,.cons _ _,_,[],_,h=>h.elim
 | [],.nil,_,_::_,_,h=>h.elim
 | [],.cons _ _,_,us,_,h=>by cases us<;>exact h.elim
 | [],.bool,_,us,_,h | [],.int _,_,us,_,h | [],.str,_,us,_,h | [],.sl _,_,us,_,h | [],.own _,_,us,_,h | [],.agg _,_,us,_,h | [],.ptr _,_,us,_,h | [],.box _,_,us,_,h | [],.fn _ _,_,us,_,h | [],.tree,_,us,_,h | [],.unk,_,us,_,h | [],.map _,_,us,_,h | [],.mv _,_,us,_,h | [],.opq,_,us,_,h | [],.imap _,_,us,_,h | [],.iter _,_,us,_,h | [],.optr _,_,us,_,h | [],.sb _ _,_,us,_,h=>by cases us<;>exact h.elim
 | true::_,.bool,_,us,_,h | true::_,.int _,_,us,_,h | true::_,.str,_,us,_,h | true::_,.sl _,_,us,_,h | true::_,.own _,_,us,_,h | true::_,.agg _,_,us,_,h | true::_,.nil,_,us,_,h | true::_,.ptr _,_,us,_,h | true::_,.box _,_,us,_,h | true::_,.fn _ _,_,us,_,h | true::_,.tree,_,us,_,h | true::_,.unk,_,us,_,h | true::_,.map _,_,us,_,h | true::_,.mv _,_,us,_,h | true::_,.opq,_,us,_,h | true::_,.imap _,_,us,_,h | true::_,.iter _,_,us,_,h | true::_,.optr _,_,us,_,h | true::_,.sb _ _,_,us,_,h=>by cases us<;>exact h.elim
 | false::_,.bool,_,us,_,h | false::_,.int _,_,us,_,h | false::_,.str,_,us,_,h | false::_,.sl _,_,us,_,h | false::_,.own _,_,us,_,h | false::_,.agg _,_,us,_,h | false::_,.nil,_,us,_,h | false::_,.ptr _,_,us,_,h | false::_,.box _,_,us,_,h | false::_,.fn _ _,_,us,_,h | false::_,.tree,_,us,_,h | false::_,.unk,_,us,_,h | false::_,.map _,_,us,_,h | false::_,.mv _,_,us,_,h | false::_,.opq,_,us,_,h | false::_,.imap _,_,us,_,h | false::_,.iter _,_,us,_,h | false::_,.optr _,_,us,_,h | false::_,.sb _ _,_,us,_,h=>by cases us<;>exact h.elim
theorem zDe {m:Mem} {N:Nat->Prop} {u:Value} (hu:u.oneCell'=true): ∀(τs:Ty) (x:(unh τs).den) (us:List Value) (F:List Nat),hasH τs=false->RepAs m N (unh τs) x us F->RepAs m N τs (infl τs x u) us F
 | .nil,_,us,F,_,h=>h
 | .cons a r,x,v::us,F,hh,⟨F1,F2,e,h1,h2⟩=>by
  simp only [hasH,Bool.or_eq_false_iff] at hh;refine ⟨F1,F2,e,?_,zDe hu r x.2 us F2 hh.2 h2⟩;unfold RepA at h1 ⊢;rw [zF8] at h1;split at h1
  ·rename_i ha;rw [qb ha];obtain ⟨cs,e1,e2⟩:=h1;exact ⟨cs,e1,zp8 hu a x.1 cs F1 e2 (zl9 a cs hh.1)⟩
  ·rename_i ha;rw [qc ha]
   exact zp8 hu a x.1 [v] F1 h1 (zl9 a _ hh.1)
 | .cons _ _,_,[],_,_,h=>h.elim
 | .bool,_,us,_,_,h | .int _,_,us,_,_,h | .str,_,us,_,_,h | .sl _,_,us,_,_,h | .own _,_,us,_,_,h | .agg _,_,us,_,_,h | .ptr _,_,us,_,_,h | .box _,_,us,_,_,h | .fn _ _,_,us,_,_,h | .tree,_,us,_,_,h | .unk,_,us,_,_,h | .map _,_,us,_,_,h | .mv _,_,us,_,_,h | .opq,_,us,_,_,h | .imap _,_,us,_,_,h | .iter _,_,us,_,_,h | .optr _,_,us,_,_,h | .sb _ _,_,us,_,_,h=>by cases us<;>exact h.elim
theorem zJL {m:Mem} {N:Nat->Prop} {u:Value} (hu:u.oneCell'=true) {g off:Nat} {vs:List Value} {T:TypeId} (hg:m g=some (.cells ⟨vs⟩ T (0,0))) (hv:vs[off]?=some u):
  ∀(τs:Ty) (x:(unh τs).den) (us:List Value) (F:List Nat),oneFs τs off=true->RepAs m N (unh τs) x (.pointer (some ⟨g,0,none⟩)::us) F->RepAs m N τs (infl τs x u) (.pointer (some ⟨g,0,none⟩)::us) F:=by
 intro τs x us F h1 h;unfold oneFs at h1;split at h1
 ·rename_i e r;simp only [qq,Bool.not_eq_true'] at h1;obtain ⟨F1,F2,e1,h2,h3⟩:=h;refine ⟨F1,F2,e1,?_,zDe hu r x.2 us F2 h1.2 h3⟩;have h2':RepT m N (.box (unh e)) x.1 [.pointer (some ⟨g,0,none⟩)] F1:=h2;show RepT m N (.box e) (infl e x.1 u) [.pointer (some ⟨g,0,none⟩)] F1;obtain ⟨g',es,T',F',k1,k2,k3,k4⟩:=h2';have:g=g':=by simpa using k1
  subst this;rw [hg] at k2
  have hes:es=vs:=by
   simp only [qI,Go.Obj.cells.injEq] at k2;have:=congrArg Array.toList k2.1;simpa using this.symm
  subst hes;exact ⟨g,es,T,F',rfl,hg,zp8 hu e x.1 es F' k3 (zzG e off es h1.1 (by rw [k3.len,zyJ]) hv),k4⟩
 ·cases h1
theorem zLn {m:Mem} {N:Nat->Prop} {u:Value} {g off:Nat}: ∀(io:List Bool) (τs:Ty) (z:(ioTy io (unh τs)).den) (us:List Value) (F:List Nat),oneFs τs off=true->io.headD false=true->RepBack m N io τs (inflB io τs z u) (.pointer (some ⟨g,0,none⟩)::us) F->
  ∃es T,m g=some (.cells es T (0,0))∧es.toList[off]?=some u:=by
 intro io τs z us F h1 h2 h;unfold oneFs at h1;split at h1
 ·rename_i e r;simp only [qq,Bool.not_eq_true'] at h1
  cases io with
  | nil=>simp at h2
  | cons b io=>
   have hb:b=true:=by simpa using h2
   subst hb;obtain ⟨F1,F2,e1,h3,_⟩:=h;have h3':RepT m N (.box e) (infl e z.1 u) [.pointer (some ⟨g,0,none⟩)] F1:=h3;obtain ⟨g',es,T',F',k1,k2,k3,k4⟩:=h3';have:g=g':=by simpa using k1
   subst this;exact ⟨_,T',k2,by simpa using zzE e off es h1.1 k3.len (zqj (m:=m) (N:=N) e z.1 es F' k3).2⟩
 ·cases h1
theorem RepCs.set1 {m:Mem} {N:Nat->Prop} {s:Sto} {hd:Nat->Value} {c:C} {v:Value}: ∀ {cs:List C} {vs:List Value} {off:Nat},RepCs m N s hd cs vs->vs[off]?=some v->RepC m N s hd c v->RepCs m N s hd (cs.set off c) vs
 | [],[],_,_,h,_=>by simp at h
 | _::_,w::_,0,⟨_,h2⟩,h,h'=>by
  simp at h;subst h
  exact ⟨h',h2⟩
 | _::_,_::_,off+1,⟨h1,h2⟩,h,h'=>⟨h1,RepCs.set1 h2 (by simpa using h) h'⟩
theorem SInv.recell {m:Mem} {N:Nat->Prop} {s:Sto} {hd:Nat->Value} {F:Nat->List Nat} {size:Nat} (I:SInv m N s hd F size) {id v off:Nat} {cs:List C} (hs:s id=(v,.box cs)) (c:C)
  (hc: ∀g vs T u,hd id= .pointer (some ⟨g,0,none⟩)->m g=some (.cells ⟨vs⟩ T (0,0))->RepCs m N s hd cs vs->vs[off]?=some u->RepC m N s hd c u) (hoff:off<cs.length):SInv m N (s.set id (v,.box (cs.set off c))) hd F size∧Goes s (s.set id (v,.box (cs.set off c))) hd hd:=by
 have hv:v=(s id).1:=by rw [hs]
 have hg:Goes s (s.set id (v,.box (cs.set off c))) hd hd:=by
  subst hv;exact Goes.set_like id _ (by simp [Obj.isV]) (fun _=>by rw [hs];rfl)
 have hF:(fun i=>if i=id then F id else F i)=F:=by
  funext i;by_cases e:i=id
  ·simp [e]
  ·simp [e]
 have hob:=I.obj id;rw [hs] at hob;obtain ⟨g,vs,T,k1,k2,k3,k4⟩:=hob;have hlt:off<vs.length:=by rw [k3.len];exact hoff
 have hu:vs[off]?=some vs[off]:=qu hlt;have k3':RepCs m N (s.set id (v,.box (cs.set off c))) hd (cs.set off c) vs:=RepCs.goes (fun b hb=>⟨hb,rfl⟩) hg (k3.set1 hu (hc g vs T _ k1 k2 k3 hu));have hinv:=I.upd (N':=N) (hd':=hd) id (v,.box (cs.set off c)) (F id) (ql _) (fun b hb=>⟨hb,rfl⟩) (fun k hk=>⟨I.ltN k hk,fun i _ hki=>I.sep i k hki hk,fun h=>I.sep id k h hk⟩) (fun _ _ _ _=>rfl) (I.nodup id) (fun k hk=>⟨I.ltF id k hk,fun i hi hk'=>hi (I.once i id k hk' hk)⟩) hg (fun _ _=>rfl) ⟨g,vs,T,k1,k2,k3',k4⟩;rw [hF] at hinv;exact ⟨hinv,hg⟩
theorem zJN (hC:CSoundX X E O) {f off b:Nat} {args:List V} (h:hidK E O f off args st.o b K=some r):
  ∃e,K e=some r∧ ∀st':St,(∀i,i∈e.w∨i∈e.r->st'.o i=st.o i)-> ∀(a:Act) w N hd F,InvD X st' a w N hd F-> ∀us:List Value,RepVs (memOf w) N st'.o hd args us->
   Calls E.P (rl f) us.toArray w (Post fun v w'=> ∃W s' N' hd' F',Left X st' e w N hd F v w' W s' N' hd' F'):=by
 unfold hidK at h;split at h
 ·rename_i id ver rest;split at h
  ·rename_i v cs hs;split at h
   ·rename_i i vi hoff;split at h
    ·rename_i hcond2;obtain ⟨rfl,hne,hvi,hisV,hone,hio⟩:=hcond2;have hol:off<cs.length:=(qW.1 hoff).1;obtain ⟨e,hKe,hcl⟩:=zBj (X:=X) (E:=E) (f:=rl f) (st:= {st with o:=st.o.set id (v,.box (cs.set off (.imm .unk ())))}) hC.2.1 h;split at hKe
     ·rename_i hw;split at hKe
      ·rename_i v' cs' hes;split at hKe
       ·rename_i uu hoff';split at hKe
        ·rename_i hvv;have hol':off<cs'.length:=(qW.1 hoff').1;have hwi:i∉e.w:=by simpa using hw.1
         have hwid:id∈e.w:=by simpa using hw.2
         refine ⟨_,hKe,fun st' hi a w N hd F I us hus=>?_⟩;have sid:st'.o id=(v,.box cs):=(hi id (.inl (qv ..))).trans hs;have si:st'.o i=st.o i:=hi i (.inr (qv ..));have hob:=I.s.obj id;rw [sid] at hob;obtain ⟨g,vs,T,k1,k2,k3,k4⟩:=hob;obtain ⟨u,hu,hq1,hu1,hq3⟩:=k3.get hoff;have hui:u=hd i:=hq3 (by rw [si];exact hvi) (by rw [si];exact hisV)
         obtain ⟨I1,g1⟩:=I.s.recell (off:=off) sid (.imm .unk ()) (fun g' vs' T' u' e1 e2 e3 e4=>⟨rfl,u',rfl,by
          obtain ⟨u2,hu2,h1,h2,_⟩:=e3.get hoff;rw [e4] at hu2;obtain rfl:=qh hu2;exact h2⟩) hol
         have ID1:InvD X {st' with o:=st'.o.set id (v,.box (cs.set off (.imm .unk ())))} a w N hd F:=
          ⟨I1,fun t=>RepV.goes (fun b hb=>⟨hb,rfl⟩) g1 (I.t t),I.defers,I.size,I.io,I.fr⟩
         have hus1:=RepVs.goes (fun b hb=>⟨hb,rfl⟩) g1 hus
         match us,hus with
         | p::us,hus0=>
          have hp:p= .pointer (some ⟨g,0,none⟩):=by
           obtain ⟨⟨_,_,h3⟩,_⟩:=hus0;obtain ⟨g',e1,e2⟩:=h3 (by rw [sid]) (by rw [sid];rfl);rw [k1] at e1;have:g=g':=by simpa using e1
           rw [e2,this]
          subst hp
          have hag: ∀j,j∈e.w∨j∈e.r->(st'.o.set id (v,.box (cs.set off (.imm .unk ())))) j=(st.o.set id (v,.box (cs.set off (.imm .unk ())))) j:=fun j hj=>by
           by_cases ej:j=id
           ·subst ej;rw [Sto.set_same,Sto.set_same]
           ·rw [Sto.set_ne _ _ ej,Sto.set_ne _ _ ej];refine hi j ?_;rcases hj with h | h
            ·exact .inl (qn _ h)
            ·exact .inr (qn _ h)
          have hcalls:=hcl {st' with o:=st'.o.set id (v,.box (cs.set off (.imm .unk ())))} hag a w N hd F ID1 _ hus1 (fun w'=> ∃es T',memOf w' g=some (.cells es T' (0,0))∧es.toList[off]?=some u) (fun x yz hx N1 G hrep hnd hG hN hT=>by
           have hfu:=zHH hx u hu1;have hrep':=zJL hu1 k2 hu (E.ps f) x us G hone hrep;refine Calls.mono (hC.2.2 f _ _ hfu w N1 _ G hrep' hnd hG hN hT) (fun e w' hp=>?_)
           cases e with
           | returned v=>
            obtain ⟨N',rs,G1,G2,D⟩:=hp
            exact ⟨⟨N',rs,G1,G2,⟨D.mv,D.up,D.new,D.lt,D.val,D.rep,zyq _ _ _ _ _ D.back,D.nod,D.own⟩⟩,zLn _ _ _ _ _ hone hio D.back⟩
           | _=>exact hp.elim)
          refine Calls.mono hcalls (fun e' w' hp=>?_)
          cases e' with
          | returned vv=>
           obtain ⟨⟨W,s',N',hd',F',L⟩,es,T',hes1,hes2⟩:=hp;have hsid:s' id=(v',.box cs'):=(L.sw id hwid).trans hes;have hsi:s' i=st'.o i:=(L.so i hwi).trans (Sto.set_ne _ _ hne);have hdid:hd' id=hd id:=(L.goes.box id (by rw [hsid,hvv];show v=((st'.o.set id (v,.box (cs.set off (.imm .unk ())))) id).1;rw [Sto.set_same]) (by rw [hsid];rfl)).2
           obtain ⟨I2,g2⟩:=L.inv.recell (off:=off) hsid (.own i vi) (fun g' vs' T'' u' e1 e2 e3 e4=>by
            have hgg:g=g':=by
             rw [hdid,k1] at e1;simpa using e1
            subst hgg;rw [hes1] at e2
            have hvs:es.toList=vs':=by
             simp only [qI,Go.Obj.cells.injEq] at e2;rw [e2.1]
            rw [<-hvs,hes2] at e4;obtain rfl:=qh e4;refine ⟨by rw [hsi,si,hvi];exact ql _,hu1,fun _ hv2=>?_⟩;rw [hui];exact (L.goes.vec i (by rw [hsi];exact congrArg Prod.fst (Sto.set_ne _ _ hne).symm) hv2).2.1.symm) hol'
           refine ⟨W,s'.set id (v',.box (cs'.set off (.own i vi))),N',hd',F',?_⟩
           exact
            {sw:=fun j hj=>by
              by_cases ej:j=id
              ·subst ej;rw [Sto.set_same];exact (Sto.set_same ..).symm
              ·rw [Sto.set_ne _ _ ej];refine (L.sw j ?_).trans (Sto.set_ne _ _ ej).symm;rcases qz.1 hj with h | h
               ·exact absurd h ej
               ·exact h
             so:=fun j hj=>by
              have ej:j≠id:=fun h=>hj (by rw [h];exact qv ..)
              rw [Sto.set_ne _ _ ej];exact (L.so j (fun h=>hj (qn _ h))).trans (Sto.set_ne _ _ ej)
             mv:=L.mv
             own:=L.own
             inv:=I2
             up:=L.up
             goes:=(g1.trans L.goes).trans g2
             new:=L.new
             sub:=L.sub
             val:=RepV.goes (fun b hb=>⟨hb,rfl⟩) g2 L.val}
          | _=>exact hp.elim
        ·cases hKe
       ·cases hKe
      ·cases hKe
     ·cases hKe
    ·cases h
   ·cases h
  ·cases h
 ·cases h
theorem zCt {f:Nat}: ∀vs:List V,rl (virt f vs)=rl f
 | []=>rfl
 | v::vs=>by
  have ih:=zCt (f:=f) vs
  cases v with
  | one c=>
   cases c with
   | imm τ x=>
    cases τ with
    | fn g caps=>
     simp only [virt,rl]
     rw [Nat.add_mul_mod_self_left]
    | _=>simp only [virt];exact ih
   | _=>simp only [virt];exact ih
  | _=>simp only [virt];exact ih
theorem zL9 (v k:Nat):rl (v+65536*k)=rl v:=by simp [rl,Nat.add_mul_mod_self_left]
theorem zK4 {E:Env} {d f:Nat} (vs:List V):rl (E.vnum d f vs)=rl f:=by
 have h:rl (virt (f+65536*E.twin d f) vs)=rl f:=by rw [zCt,zL9]
 unfold Env.vnum;split
 ·exact h
 ·split
  ·exact h
  ·exact zCt vs
theorem zHS (hC:CSoundX X E O) {ca:Call} {g:Operand} (ho:o.op= .call ca) (hca:ca.callee= .value g) (h:exOp E O o st K=some r): ∃e,K e=some r∧Good E X o st e:=by
 have hgm:g∈o.op.operands:=by rw [ho];simp [Op.operands,Call.operands,hca]
 have hargs: ∀x∈ca.args.toList,x∈o.op.operands:=fun x hx=>by rw [ho];simp [Op.operands,Call.operands,hca];exact .inr (by simpa using hx)
 simp only [exOp,ho,hca] at h
 replace h:=zax h
 obtain ⟨c,hc,h⟩:=h;split at h
 ·rename_i f caps x;split at h
  ·rename_i t hcl;split at h
   ·rename_i y hargs1;have hy:y∈o.op.operands:=hargs y (by rw [hargs1];simp)
    replace h:=zax h
    obtain ⟨c',hc',h⟩:=h;split at h
    ·rename_i hcond;obtain ⟨hne,hns,hcall,rfl⟩:=hcond;unfold appendK at h;dsimp only at h;split at h
     ·cases h
     ·rename_i te hte;split at h
      ·split at h
       ·simp [isE0] at hne
       ·unfold srcK at h;split at h
        ·simp [isStrC] at hns
        ·replace h:=zC7 h
         obtain ⟨e,ys,m,h,hg⟩:=h;split at h
         ·rename_i hc2;obtain ⟨himm,hes⟩:=hc2;split at h
          ·split at h
           ·rename_i hroom;refine ⟨_,h,fun st' he hi a w ⟨N,hd,F,I⟩ hdst K Q hKQ=>?_⟩;have h1:=I.eval g;rw [he g hgm,hc] at h1;obtain ⟨_,es,e1,hes'⟩:=h1;have e1':a.eval g= .func (.func f) #[] es.toArray:=by simpa using e1
            have hes0:es= []:=by
             have:=hes'.len;simpa [Ty.sz] using this
            subst hes0;have h2:=I.eval y;rw [he y hy,hc'] at h2;have hid:st'.o (newId o.dst)=st.o (newId o.dst):=hi _ (.inl (by simp));have els:=hg st'.o (fun i hi'=>hi i (.inr hi')) I.s _ h2 himm;have hcalls:=hC.1.1.1 f t hcl te hte w N e ys _ himm hes (fun k hk=>I.s.ltN k hk) els (by simpa using hroom);unfold Oper.wp
            have hrun:(execOp a.eval o).run E.P w= .ok (.enter f #[a.eval y]) w:=by
             have hargs':ca.args= #[y]:=by rw [<-Array.toArray_toList (xs:=ca.args),hargs1]
             simp [execOp,ho,resolve,hca,hargs',e1',Deferred.ofValue,invoke,zvr hcall]
            rw [hrun];refine Calls.mono hcalls (fun e' w' hp=>?_)
            cases e' with
            | returned v=>
             obtain ⟨G',hmv,hr,hG',hnd⟩:=hp;obtain ⟨s',N',hd',F',L⟩:=zvy (X:=X) I.s (id:=newId o.dst) (ver:=(st.o (newId o.dst)).1+1) (s0:=st.o) (rd:=m) (G:= []) (by rw [hid];omega) (by simp) hmv (by simp) hr (fun k hk=> .inr (hG' k hk)) hnd
             exact hKQ _ _ (L.inv' I hdst)
            | _=>exact hp.elim
           ·cases h
          ·cases h
         ·cases h
      ·cases h
    ·cases h
   ·cases h
  split at h
  ·rename_i t hgr;split at h
   ·rename_i y hargs1;have hy:y∈o.op.operands:=hargs y (by rw [hargs1];simp)
    replace h:=zax h
    obtain ⟨c',hc',h⟩:=h;split at h
    ·rename_i n te hte;split at h
     ·rename_i e he0;split at h
      ·rename_i hcond;obtain ⟨himm,hes,hcall,rfl⟩:=hcond;split at h
       ·rename_i hcond2;obtain ⟨hn0,hnb⟩:=hcond2;unfold mkObj at h;refine ⟨_,h,fun st' he hi a w ⟨N,hd,F,I⟩ hdst K Q hKQ=>?_⟩;have h1:=I.eval g;rw [he g hgm,hc] at h1;obtain ⟨_,es,e1,hes'⟩:=h1;have e1':a.eval g= .func (.func f) #[] es.toArray:=by simpa using e1
        have hes0:es= []:=by
         have h0:=hes'.len;exact wd.1 h0
        subst hes0;have h2:=I.eval y;rw [he y hy,hc'] at h2;have e2:a.eval y= .int .i64 n:=zcQ (m:=memOf w) (N:=N) (s:=st'.o) (hd:=hd) h2;obtain ⟨n',rfl⟩: ∃n':Nat,n=(n':Int):=⟨Int.toNat n,(Int.toNat_of_nonneg hn0).symm⟩;have hid:st'.o (newId o.dst)=st.o (newId o.dst):=hi _ (.inl (qv ..));have hnb':((bytesP E.P te:Nat):Int)*(n':Int)<=140737488355328:=hnb;have hcalls:=hC.1.1.2 f t hgr te hte w N e n' himm hes (by omega);unfold Oper.wp
        have hrun:(execOp a.eval o).run E.P w= .ok (.enter f #[.slice none 0 0,.int .i64 n']) w:=by
         have hargs':ca.args= #[.const (.slice none 0 0),y]:=by rw [<-Array.toArray_toList (xs:=ca.args),hargs1]
         have e4:a.eval (.const (.slice none 0 0))= .slice none 0 0:=rfl;have e3:ca.args.map a.eval= #[.slice none 0 0,.int .i64 n']:=by rw [hargs',<-e2,List.map_toArray,qK,qK,List.map_nil,e4]
         simp only [execOp,ho,resolve,hca,e1',e3];simp [Deferred.ofValue,invoke,zvr hcall]
        rw [hrun];refine Calls.mono hcalls (fun e' w' hp=>?_)
        cases e' with
        | returned v=>
         obtain ⟨G',hmv,hr,hG',hnd⟩:=hp;obtain ⟨s',N',hd',F',L⟩:=zvy (X:=X) I.s (id:=newId o.dst) (ver:=(st.o (newId o.dst)).1+1) (s0:=st.o) (rd:= []) (G:= []) (by rw [hid];omega) (by simp) hmv (by simp) hr (fun k hk=> .inr (hG' k hk)) hnd
         exact hKQ _ _ (L.inv' I hdst)
        | _=>exact hp.elim
       ·cases h
      ·cases h
     ·cases h
    ·cases h
   ·cases h
  split at h
  ·rename_i hcond;obtain ⟨himm,hcall,hlt⟩:=hcond
   obtain ⟨e,hK,hcl⟩: ∃e,K e=some r∧ ∀st':St,(∀i,i∈e.w∨i∈e.r->st'.o i=st.o i)-> ∀(a:Act) w N hd F,InvD X st' a w N hd F-> ∀us:List Value,RepVs (memOf w) N st'.o hd (ca.args.toList.map st.eval++exFs caps x) us->
     Calls E.P (rl (E.vnum (o.dst.getD 0) f (ca.args.toList.map st.eval))) us.toArray w (Post fun v w'=> ∃W s' N' hd' F',Left X st' e w N hd F v w' W s' N' hd' F'):=by
    split at h
    ·exact zIW (X:=X) hC h
    ·exact zJN (X:=X) hC h
   refine ⟨e,hK,fun st' he hi a w ⟨N,hd,F,I⟩ hdst K Q hKQ=>?_⟩;have h1:=I.eval g;rw [he g hgm,hc] at h1;obtain ⟨_,es,e1,hes⟩:=h1;have e1':a.eval g= .func (.func f) #[] es.toArray:=by simpa using e1
   have hmap:ca.args.toList.map st.eval=ca.args.toList.map st'.eval:=List.map_congr_left fun p hp=>(he p (hargs p hp)).symm
   rw [hmap] at hcl;have hus:RepVs (memOf w) N st'.o hd (ca.args.toList.map st'.eval++exFs caps x) (ca.args.toList.map a.eval++es):=RepVs.append (zyy _ fun x _=>I.eval x) (zE9 himm hes);have hcalls:=hcl st' hi a w N hd F I _ hus;rw [zK4,show rl f=f from Nat.mod_eq_of_lt hlt] at hcalls;unfold Oper.wp
   have hrun:(execOp a.eval o).run E.P w= .ok (.enter f (ca.args.toList.map a.eval++es).toArray) w:=by
    simp [execOp,ho,resolve,hca,e1',Deferred.ofValue,invoke,zvr hcall]
   rw [hrun];refine Calls.mono hcalls (fun e' w' hp=>?_)
   cases e' with
   | returned v=>
    obtain ⟨W,s',N',hd',F',L⟩:=hp
    exact hKQ _ _ (L.inv' I hdst)
   | _=>exact hp.elim
  ·cases h
 ·cases h
end
section
variable {E : Env} {O : Oracle E} {X : Ctx} {st : St} {R : Type} {K : Eff -> Option R} {r : R}
theorem zIs (hC:CSoundX X E O) (o:Oper) (h:exOp E O o st K=some r): ∃e,K e=some r∧Good E X o st e:=by
 cases ho:o.op with
 | move x=>exact zDa (.inl ho) h
 | assign x=>exact zDa (.inr ho) h
 | pick c a b=>exact zHX ho h
 | alloc t=>exact zGG ho h
 | box t x=>exact zJb ho h
 | build t ps=>exact zGK ho h
 | buildSlice t n ps=>exact zBI ho h
 | load t x=>exact zIN ho h
 | store t x y=>exact zGC ho h
 | nilCheck x=>exact zDr ho h
 | binOp op t x y yt=>exact zGN ho h
 | unOp op t x=>exact zHG ho h
 | convert s d x=>exact zEY ho h
 | makeFunc f fi ca=>exact zDC ho h
 | makeSlice t l c=>exact zB7 ho h
 | slice t x lo hi mx=>exact zHf ho h
 | fieldAddr t x i=>exact zCj ho h
 | field t x i=>exact zG8 ho h
 | indexAddr t x i=>exact zCu ho h
 | index t x i=>exact zGr ho h
 | extract x i=>exact zE2 ho h
 | makeMap t r=>exact zEV ho h
 | lookup t x i ok=>exact zFu ho h
 | mapUpdate t x i y=>exact zBZ ho h
 | insert t x i y=>exact zFF ho h
 | range t x=>exact zGI ho h
 | entry x=>exact zG9 ho h
 | call ca=>
  cases hca:ca.callee with
  | value g=>exact zHS hC ho hca h
  | invoke a b=>simp only [exOp,ho,hca] at h;cases h
  | builtin b=>
   match hargs:ca.args.toList with
   | []=>simp only [exOp,ho,hca,hargs] at h;cases b<;>cases h
   | [x]=>
    cases b with
    | len=>exact zJt ho hca hargs h
    | _=>simp only [exOp,ho,hca,hargs] at h;cases h
   | [x,y]=>
    cases b with
    | min=>exact zAd ho (.inl hca) hargs h
    | max=>exact zAd ho (.inr hca) hargs h
    | append=>exact zFK ho hca hargs h
    | _=>simp only [exOp,ho,hca,hargs] at h;cases h
   | x::y::z::w=>simp only [exOp,ho,hca,hargs] at h;cases b<;>cases h
 | _=>simp only [exOp,ho] at h;cases h
end
def GoodW (E:Env) (X:Ctx) (all:Array Oper) (o:Oper) (st:St) (e:Eff):Prop:=
 ∀st':St,(∀t∈(infoOf all o e).uses,st'.t t=st.t t)->(∀i,i∈e.w∨i∈e.r->st'.o i=st.o i)-> ∀a w,Inv X st' a w-> ∀(K:Act->World->Prop) (Q:Exit->Act->World->Prop),
  (∀a' w',Inv X (st'.app o.dst e) a' w'->K a' w')->(if Region.wanted o (yielded all a.tmps)=true then o.wp E.P a w K Q∨(o.asks E.P a w∧LetsOut Q) else K (a.put o.dst undef) w)
theorem zvh: ∀(xs:List Operand) (t:Nat),.tmp t∈xs->t∈Operand.tmps xs
 | [],_,h=>by simp at h
 | .tmp u::r,t,h=>by
  rcases qz.1 h with h | h
  ·injection h with h;subst h;exact qv ..
  ·exact qn _ (zvh r t h)
 | .const _::r,t,h=>by
  rcases qz.1 h with h | h
  ·cases h
  ·exact zvh r t h
 | .global _::r,t,h=>by
  rcases qz.1 h with h | h
  ·cases h
  ·exact zvh r t h
 | .func _::r,t,h=>by
  rcases qz.1 h with h | h
  ·cases h
  ·exact zvh r t h
theorem zGJ {st st':St} {x:Operand} (h: ∀t,x= .tmp t->st'.t t=st.t t):st'.eval x=st.eval x:=by
 cases x with
 | tmp t=>exact h t rfl
 | _=>rfl
section
variable {E : Env} {O : Oracle E} {X : Ctx} {all : Array Oper}
theorem zGV {o:Oper} {st st':St} {e:Eff} (h: ∀t∈(infoOf all o e).uses,st'.t t=st.t t): ∀x∈o.op.operands,st'.eval x=st.eval x:=by
 intro x hx;refine zGJ fun t ht=>h t ?_
 subst ht;exact qB _ (zvh _ _ (by simpa using hx))
theorem zzq {st:St} {a:Act} {w:World} {j t:Nat} {b:Bool} (I:Inv X st a w) (hg:guardTmp all j=some t) (ht:st.t t= .one (.imm .bool b)):yielded all a.tmps j=some b:=by
 obtain ⟨N,hd,F,I⟩:=I;have h:=I.t t;rw [ht] at h;have hv:a.tmps.getD t undef= .bool b:=zsF (m:=memOf w) (N:=N) (s:=st.o) (hd:=hd) h
 have hsome:a.tmps[t]?=some (.bool b):=by
  rw [Array.getD_eq_getD_getElem?] at hv
  cases hq:a.tmps[t]? with
  | none=>rw [hq] at hv;simp [undef] at hv
  | some u=>rw [hq] at hv;simp at hv;rw [hv]
 unfold yielded;unfold guardTmp at hg;rw [hg];simp [hsome]
theorem zJk {o:Oper} {st:St} {e:Eff} (hd:dstOK X o.dst) (hg:o.guard=none∨ ∃j t b,o.guard=some (j,b)∧guardTmp all j=some t∧st.t t= .one (.imm .bool b)) (h:Good E X o st e):GoodW E X all o st e:=by
 intro st' h1 h2 a w I K Q hK
 have hw:Region.wanted o (yielded all a.tmps)=true:=by
  rcases hg with hg | ⟨j,t,b,hg,hj,ht⟩
  ·simp [Region.wanted,hg]
  ·have ht':st'.t t= .one (.imm .bool b):=by
    rw [h1 t (by simp [infoOf,hg,hj]),ht]
   simp [Region.wanted,hg,zzq I hj ht']
 rw [qb hw];exact .inl (h st' (zGV h1) h2 a w I hd K Q hK)
theorem zGL {o:Oper} {st:St} {s:Sto} (hd:dstOK X o.dst) {j t:Nat} {b b':Bool} (hg:o.guard=some (j,b')) (hj:guardTmp all j=some t) (ht:st.t t= .one (.imm .bool b)) (hb:b≠b'):GoodW E X all o st {v:= .tup [],s}:=by
 intro st' h1 h2 a w I K Q hK
 have ht':st'.t t= .one (.imm .bool b):=by
  rw [h1 t (by simp [infoOf,hg,hj]),ht]
 have hw: ¬(Region.wanted o (yielded all a.tmps)=true):=by
  simp [Region.wanted,hg,zzq I hj ht',hb]
 rw [qc hw];obtain ⟨N,hd',F,I⟩:=I;exact hK _ _ (I.val hd ⟨[],rfl,trivial⟩)
theorem zFY {o:Oper} {st:St} {s:Sto} (hd:dstOK X o.dst) {j t:Nat} {b':Bool} (hg:o.guard=some (j,b')) (hj:guardTmp all j=some t) (ht:st.t t= .tup []):GoodW E X all o st {v:= .tup [],s}:=by
 intro st' h1 h2 a w I K Q hK
 have ht':st'.t t= .tup []:=by
  rw [h1 t (by simp [infoOf,hg,hj]),ht]
 have hy:yielded all a.tmps j=none:=by
  obtain ⟨N,hd',F,I⟩:=I;have h:=I.t t;rw [ht'] at h;obtain ⟨vs,e1,e2⟩:=h;have hv:a.tmps.getD t undef= .tuple ⟨vs⟩:=e1;unfold yielded;unfold guardTmp at hj;rw [hj]
  cases hq:a.tmps[t]? with
  | none=>simp [hq]
  | some u=>
   have hu:u= .tuple ⟨vs⟩:=by
    rw [Array.getD_eq_getD_getElem?,hq] at hv;simpa using hv
   simp [hq,hu]
 have hw: ¬(Region.wanted o (yielded all a.tmps)=true):=by
  simp [Region.wanted,hg,hy]
 rw [qc hw];obtain ⟨N,hd',F,I⟩:=I;exact hK _ _ (I.val hd ⟨[],rfl,trivial⟩)
inductive Run (E:Env) (X:Ctx) (all:Array Oper):List Oper->St->List Eff->St->Prop
 | nil (st:St):Run E X all [] st [] st
 | cons {o:Oper} {r:List Oper} {st st':St} {e:Eff} {es:List Eff} (h:GoodW E X all o st e) (h':Run E X all r (st.app o.dst e) es st'):Run E X all (o::r) st (e::es) st'
theorem zxI {st:St} {t:Nat} {v:V} (h:st.t t=v):st.put t v=st:=by
 unfold St.put;congr 1;funext i;by_cases e:i=t
 ·subst e;simp [h]
 ·simp [e]
theorem zvA (hC:CSoundX X E O) {R:Type} {r:R}: ∀(ops:List Oper) (st:St) (acc:List Info) (K:List Info->St->Option R),evOps E O all X.io X.nt ops st acc K=some r->
  ∃es st',Run E X all ops st es st'∧es.length=ops.length∧K (acc.reverse++List.zipWith (infoOf all) ops es) st'=some r
 | [],st,acc,K,h=>⟨[],st,.nil st,rfl,by simpa [evOps] using h⟩
 | o::ops,st,acc,K,h=>by
  have hdst: ∀ {q:Option R},(if dstB X.nt X.io o.dst=true then q else none)=some r->dstOK X o.dst∧q=some r:=by
   intro q hq;split at hq
   ·rename_i hc;refine ⟨fun t ht=>?_,hq⟩;rw [ht] at hc;simpa [dstB] using hc
   ·cases hq
  have go: ∀ {st0:St},st0=st->(o.guard=none∨ ∃j t b,o.guard=some (j,b)∧guardTmp all j=some t∧st.t t= .one (.imm .bool b))->
    (if dstB X.nt X.io o.dst=true then exOp E O o st0 fun e=>evOps E O all X.io X.nt ops (st0.app o.dst e) (infoOf all o e::acc) K else none)=some r->
    ∃es st',Run E X all (o::ops) st es st'∧es.length=(o::ops).length∧K (acc.reverse++List.zipWith (infoOf all) (o::ops) es) st'=some r:=by
   intro st0 e0 hg hq;subst e0;obtain ⟨hd,hq⟩:=hdst hq;obtain ⟨e,hq,hgood⟩:=zIs (X:=X) hC o hq;obtain ⟨es,st',h1,h2,h3⟩:=zvA hC ops _ _ _ hq;exact ⟨e::es,st',.cons (zJk hd hg hgood) h1,by simp [h2],by simpa using h3⟩
  have skip: ∀ {st0:St},st0=st->(∃j t b b',o.guard=some (j,b')∧guardTmp all j=some t∧st.t t= .one (.imm .bool b)∧b≠b')->
    (if dstB X.nt X.io o.dst=true then evOps E O all X.io X.nt ops (st0.app o.dst {v:= .tup [],s:=st0.o}) (infoOf all o {v:= .tup [],s:=st0.o}::acc) K else none)=some r->
    ∃es st',Run E X all (o::ops) st es st'∧es.length=(o::ops).length∧K (acc.reverse++List.zipWith (infoOf all) (o::ops) es) st'=some r:=by
   intro st0 e0 hg hq;subst e0;obtain ⟨hd,hq⟩:=hdst hq;obtain ⟨j,t,b,b',hg,hj,ht,hb⟩:=hg;obtain ⟨es,st',h1,h2,h3⟩:=zvA hC ops _ _ _ hq;exact ⟨_::es,st',.cons (zGL hd hg hj ht hb) h1,by simp [h2],by simpa using h3⟩
  simp only [evOps] at h;split at h
  ·rename_i hg;exact go rfl (.inl hg) h
  ·rename_i j want hg;split at h
   ·cases h
   ·rename_i t hj;split at h
    ·rename_i b ht;split at h
     ·rename_i hb;have hb':b=true:=hb;rw [hb'] at ht;split at h
      ·rename_i hw;exact go (zxI ht) (.inr ⟨j,t,true,by rw [hg,hw],hj,ht⟩) h
      ·rename_i hw;exact skip (zxI ht) ⟨j,t,true,want,hg,hj,ht,fun h=>hw h.symm⟩ h
     ·rename_i hb
      have hb':b=false:=by
       have hb2: ¬(b=true):=hb;simpa using hb2
      rw [hb'] at ht;split at h
      ·rename_i hw;exact skip (zxI ht) ⟨j,t,false,want,hg,hj,ht,by rw [hw];simp⟩ h
      ·rename_i hw;exact go (zxI ht) (.inr ⟨j,t,false,by rw [hg];simpa using hw,hj,ht⟩) h
    ·rename_i ht;obtain ⟨hd,hq⟩:=hdst h;obtain ⟨es,st',h1,h2,h3⟩:=zvA hC ops _ _ _ hq;exact ⟨_::es,st',.cons (zFY hd hg hj ht) h1,by simp [h2],by simpa using h3⟩
    ·cases h
theorem Run.wpOps {Q:Exit->Act->World->Prop}: ∀ {ops:List Oper} {st st':St} {es:List Eff},Run E X all ops st es st'-> ∀(k:Nat),(∀i,i<ops.length->all[k+i]?=ops[i]?)-> ∀a w,Inv X st a w->(∀a w,Inv X st' a w->Q .normal a w)->
  Go.wpOps E.P all Q (List.range' k ops.length) a w:=by
 intro ops st st' es h
 induction h with
 | nil st=>intro k _ a w I hQ;exact hQ a w I
 | @cons o r st st' e es h h' ih=>
  intro k hk a w I hQ;have h0:all[k]?=some o:=by simpa using hk 0 (by simp)
  rw [qD,List.range'_succ];simp only [Go.wpOps,h0]
  have:=h st (fun _ _=>rfl) (fun _ _=>rfl) a w I (Go.wpOps E.P all Q (List.range' (k+1) r.length)) Q (fun a' w' I'=>ih (k+1) (fun i hi=>by
   have:=hk (i+1) (by simpa using hi);simpa [Nat.add_assoc,Nat.add_comm 1] using this) a' w' I' hQ)
  exact this
end
def stS:Nat->List (Oper×Eff)->(Nat->Bool)->St->St
 | _,[],_,st=>st
 | k,p::r,S,st=>stS (k+1) r S (if S k=true then st.app p.1.dst p.2 else st)
theorem zvo: ∀(ps:List (Oper×Eff)) (k:Nat) (S:Nat->Bool) (st:St),(∀i,k<=i->i<k+ps.length->S i=false)->stS k ps S st=st
 | [],_,_,_,_=>rfl
 | p::r,k,S,st,h=>by
  have h0:=h k (ql _) (by simp);simp only [stS,h0];exact zvo r (k+1) S st (fun i h1 h2=>h i (by omega) (by simp;omega))
theorem zKx {st:St} {o:Oper} {e:Eff} {t:Nat} (h:o.dst≠some t):(st.app o.dst e).t t=st.t t:=by
 unfold St.app
 cases hd:o.dst with
 | none=>rfl
 | some d=>
  have:t≠d:=fun h'=>h (by rw [hd,h'])
  simp [this]
theorem zuH {st:St} {o:Oper} {e:Eff} {t:Nat} (h:o.dst=some t):(st.app o.dst e).t t=e.v:=by
 rw [h];simp [St.app]
theorem zKC {st:St} {d:Option Nat} {e:Eff} {i:Nat} (h:i∉e.w):(st.app d e).o i=st.o i:=by
 simp [St.app,h]
theorem zuW {st:St} {d:Option Nat} {e:Eff} {i:Nat} (h:i∈e.w):(st.app d e).o i=e.s i:=by
 simp [St.app,h]
theorem cmpT {t:Nat} {S S':Nat->Bool}: ∀(ps:List (Oper×Eff)) (k:Nat) (st st':St),(∀i p,ps[i]?=some p->S (k+i)≠S' (k+i)->p.1.dst≠some t)->st.t t=st'.t t->(stS k ps S st).t t=(stS k ps S' st').t t
 | [],_,_,_,_,h=>h
 | p::r,k,st,st',hd,h=>by
  simp only [stS];refine cmpT r (k+1) _ _ (fun i q hq hne=>hd (i+1) q (by simpa using hq) (by rwa [Nat.add_assoc,Nat.add_comm 1] at hne)) ?_;have h0:=hd 0 p (by simp);simp only [Nat.add_zero] at h0;by_cases hdt:p.1.dst=some t
  ·have heq:S k=S' k:=Classical.byContradiction fun hne=>h0 hne hdt
   rw [heq];split
   ·rw [zuH hdt,zuH hdt]
   ·exact h
  ·split<;>split<;>simp only [zKx hdt,h]
theorem cmpO {x:Nat} {S S':Nat->Bool}: ∀(ps:List (Oper×Eff)) (k:Nat) (st st':St),(∀i p,ps[i]?=some p->S (k+i)≠S' (k+i)->x∉p.2.w)->st.o x=st'.o x->(stS k ps S st).o x=(stS k ps S' st').o x
 | [],_,_,_,_,h=>h
 | p::r,k,st,st',hd,h=>by
  simp only [stS];refine cmpO r (k+1) _ _ (fun i q hq hne=>hd (i+1) q (by simpa using hq) (by rwa [Nat.add_assoc,Nat.add_comm 1] at hne)) ?_;have h0:=hd 0 p (by simp);simp only [Nat.add_zero] at h0;by_cases hdt:x∈p.2.w
  ·have heq:S k=S' k:=Classical.byContradiction fun hne=>h0 hne hdt
   rw [heq];split
   ·rw [zuW hdt,zuW hdt]
   ·exact h
  ·split<;>split<;>simp only [zKC hdt,h]
theorem lastT {t:Nat} {S:Nat->Bool}: ∀(ps:List (Oper×Eff)) (k j:Nat) (p:Oper×Eff) (st:St),ps[j]?=some p->S (k+j)=true->p.1.dst=some t->(∀i q,j<i->ps[i]?=some q->S (k+i)=true->q.1.dst≠some t)->(stS k ps S st).t t=p.2.v
 | [],_,_,_,_,h,_,_,_=>by simp at h
 | p::r,k,0,p',st,h,hS,hd,hl=>by
  simp at h;subst h;simp only [stS];have hS':S k=true:=hS;rw [qb hS']
  have:=cmpT (S:=S) (S':=fun _=>false) (t:=t) r (k+1) (st.app p.1.dst p.2) (st.app p.1.dst p.2) (fun i q hq hne=>by
   have h1:S (k+(i+1))=true:=by
    cases hs:S (k+(i+1)) with
    | true=>rfl
    | false=>rw [Nat.add_assoc,Nat.add_comm 1 i] at hne;exact absurd hs hne
   exact hl (i+1) q (by omega) (by simpa using hq) h1) rfl
  rw [this,zvo r (k+1) _ _ (fun _ _ _=>rfl),zuH hd]
 | p::r,k,j+1,p',st,h,hS,hd,hl=>by
  simp only [stS];exact lastT r (k+1) j p' _ (by simpa using h) (by rwa [Nat.add_assoc,Nat.add_comm 1 j]) hd (fun i q hi hq hs=>hl (i+1) q (by omega) (by simpa using hq) (by rwa [Nat.add_assoc,Nat.add_comm 1 i] at hs))
theorem lastO {x:Nat} {S:Nat->Bool}: ∀(ps:List (Oper×Eff)) (k j:Nat) (p:Oper×Eff) (st:St),ps[j]?=some p->S (k+j)=true->x∈p.2.w->(∀i q,j<i->ps[i]?=some q->S (k+i)=true->x∉q.2.w)->(stS k ps S st).o x=p.2.s x
 | [],_,_,_,_,h,_,_,_=>by simp at h
 | p::r,k,0,p',st,h,hS,hd,hl=>by
  simp at h;subst h;simp only [stS];have hS':S k=true:=hS;rw [qb hS']
  have:=cmpO (S:=S) (S':=fun _=>false) (x:=x) r (k+1) (st.app p.1.dst p.2) (st.app p.1.dst p.2) (fun i q hq hne=>by
   have h1:S (k+(i+1))=true:=by
    cases hs:S (k+(i+1)) with
    | true=>rfl
    | false=>rw [Nat.add_assoc,Nat.add_comm 1 i] at hne;exact absurd hs hne
   exact hl (i+1) q (by omega) (by simpa using hq) h1) rfl
  rw [this,zvo r (k+1) _ _ (fun _ _ _=>rfl),zuW hd]
 | p::r,k,j+1,p',st,h,hS,hd,hl=>by
  simp only [stS];exact lastO r (k+1) j p' _ (by simpa using h) (by rwa [Nat.add_assoc,Nat.add_comm 1 j]) hd (fun i q hi hq hs=>hl (i+1) q (by omega) (by simpa using hq) (by rwa [Nat.add_assoc,Nat.add_comm 1 i] at hs))
theorem zGD {ps:List (Oper×Eff)} {S S1:Nat->Bool} {j:Nat} {p:Oper×Eff} {st:St} (hp:ps[j]?=some p) (h1:S1 j=true) (hS: ∀i,i≠j->S1 i=S i)
  (ht: ∀i q t,j<i->ps[i]?=some q->S i=true->p.1.dst=some t->q.1.dst≠some t) (ho: ∀i q x,j<i->ps[i]?=some q->S i=true->x∈p.2.w->x∉q.2.w):
  stS 0 ps S1 st=(stS 0 ps S st).app p.1.dst p.2:=by
 have e1: ∀t,(stS 0 ps S1 st).t t=((stS 0 ps S st).app p.1.dst p.2).t t:=by
  intro t;by_cases hd:p.1.dst=some t
  ·rw [zuH hd];exact lastT ps 0 j p st hp (by rw [qJ];exact h1) hd (fun i q hi hq hs=>ht i q t hi hq (by rw [qJ,hS i (by omega)] at hs;exact hs) hd)
  ·rw [zKx hd];refine cmpT ps 0 st st (fun i q hq hne=>?_) rfl;rw [qJ] at hne;by_cases hij:i=j
   ·subst hij;rw [hp] at hq;injection hq with hq;subst hq;exact hd
   ·exact absurd (hS i hij) hne
 have e2: ∀x,(stS 0 ps S1 st).o x=((stS 0 ps S st).app p.1.dst p.2).o x:=by
  intro x;by_cases hd:x∈p.2.w
  ·rw [zuW hd];exact lastO ps 0 j p st hp (by rw [qJ];exact h1) hd (fun i q hi hq hs=>ho i q x hi hq (by rw [qJ,hS i (by omega)] at hs;exact hs) hd)
  ·rw [zKC hd];refine cmpO ps 0 st st (fun i q hq hne=>?_) rfl;rw [qJ] at hne;by_cases hij:i=j
   ·subst hij;rw [hp] at hq;injection hq with hq;subst hq;exact hd
   ·exact absurd (hS i hij) hne
 have f1:=funext e1;have f2:=funext e2;cases ha:stS 0 ps S1 st;cases hb:(stS 0 ps S st).app p.1.dst p.2;rw [ha,hb] at f1 f2;simp only at f1 f2;rw [f1,f2]
section
variable {E : Env} {X : Ctx} {all : Array Oper}
theorem Run.at {ops:List Oper} {st st':St} {es:List Eff} (h:Run E X all ops st es st'): ∀(k j:Nat) (p:Oper×Eff),(ops.zip es)[j]?=some p-> ∀S:Nat->Bool,(∀i,S i=true↔i<k+j)->GoodW E X all p.1 (stS k (ops.zip es) S st) p.2:=by
 induction h with
 | nil st=>intro k j p hp;simp at hp
 | @cons o r st st' e es h h' ih=>
  intro k j p hp S hS
  cases j with
  | zero=>
   simp at hp;subst hp
   rw [zvo _ _ _ _ (fun i h1 _=>by
    cases hs:S i with
    | false=>rfl
    | true=>have:=(hS i).1 hs;omega)]
   exact h
  | succ j=>
   have hk:S k=true:=(hS k).2 (by omega);simp only [List.zip_cons_cons,stS,hk,qf];exact ih (k+1) j p (by simpa using hp) S (fun i=>by rw [hS i];omega)
theorem Run.last {ops:List Oper} {st st':St} {es:List Eff} (h:Run E X all ops st es st'): ∀(k:Nat) (S:Nat->Bool),(∀i,k<=i->i<k+ops.length->S i=true)->stS k (ops.zip es) S st=st':=by
 induction h with
 | nil st=>intro k S _;rfl
 | @cons o r st st' e es h h' ih=>
  intro k S hS;have hk:S k=true:=hS k (ql _) (by simp);simp only [List.zip_cons_cons,stS,hk,qf];exact ih (k+1) S (fun i h1 h2=>hS i (by omega) (by simp;omega))
end
theorem zFe {acc:List Nat} (i:Nat): ∀(es:List Edge) (s:Nat),(es.foldl (fun s e=>if Region.binds .any e then s ||| 2 ^ e.on ||| acc.getD e.on 0 else s) s).testBit i=true->
  s.testBit i=true∨ ∃e∈es,Region.binds .any e=true∧(i=e.on∨(acc.getD e.on 0).testBit i=true)
 | [],s,h=> .inl h
 | e::es,s,h=>by
  rw [List.foldl_cons] at h;rcases zFe i es _ h with h1 | ⟨e',h1,h2,h3⟩
  ·split at h1
   ·rename_i hb;simp only [Nat.testBit_or,wb,Nat.testBit_two_pow,qt] at h1;rcases h1 with (h1 | h1) | h1
    ·exact .inl h1
    ·exact .inr ⟨e,qv ..,hb,.inl h1.symm⟩
    ·exact .inr ⟨e,qv ..,hb,.inr h1⟩
   ·exact .inl h1
  ·exact .inr ⟨e',qn _ h1,h2,h3⟩
theorem zAg: ∀(ops:List Oper) (acc:List Nat),∃tail,befores ops acc=acc++tail∧tail.length=ops.length∧ ∀(j:Nat) (o:Oper),ops[j]?=some o-> ∀i,(tail.getD j 0).testBit i=true->
  ∃e∈o.after.toList,Region.binds .any e=true∧(i=e.on∨((acc++tail).getD e.on 0).testBit i=true)
 | [],acc=>⟨[],by simp [befores],rfl,by simp⟩
 | o::r,acc=>by
  obtain ⟨tail,h1,h2,h3⟩:=zAg r (acc++ [o.after.toList.foldl (fun s e=>if Region.binds .any e then s ||| 2 ^ e.on ||| acc.getD e.on 0 else s) 0]);refine ⟨_::tail,by rw [befores,h1,qE];rfl,by simp [h2],fun j o' ho i hb=>?_⟩
  cases j with
  | zero=>
   simp at ho;subst ho;rcases zFe i _ _ hb with h | ⟨e,q1,q2,q3⟩
   ·simp at h
   ·refine ⟨e,q1,q2,q3.imp (fun h=>h) (fun h=>?_)⟩
    have hlt:e.on<acc.length:=by
     apply Classical.byContradiction;intro hge;rw [List.getD_eq_getElem?_getD,List.getElem?_eq_none (by omega)] at h;simp at h
    rw [List.getD_eq_getElem?_getD,List.getElem?_append_left hlt,<-List.getD_eq_getElem?_getD]
    exact h
  | succ j=>
   obtain ⟨e,q1,q2,q3⟩:=h3 j o' (by simpa using ho) i hb;refine ⟨e,q1,q2,?_⟩;rw [qE] at q3;exact q3
section
variable {E : Env} {X : Ctx} {all : Array Oper}
theorem zsU {ops:List Oper} {es:List Eff} {j:Nat} {p:Oper×Eff} (h:(ops.zip es)[j]?=some p):(List.zipWith (infoOf all) ops es)[j]?=some (infoOf all p.1 p.2):=by
 rw [List.zip_eq_zipWith] at h;simp only [List.getElem?_zipWith] at h ⊢
 cases ho:ops[j]? with
 | none=>rw [ho] at h;simp at h
 | some o=>
  cases he:es[j]? with
  | none=>rw [ho,he] at h;simp at h
  | some e=>rw [ho,he] at h;simp at h;subst h;rfl
theorem zBu {bs:List Nat} {is:List Info} (h:commOk bs is=true) {i j:Nat} {a b:Info} (ha:is[i]?=some a) (hb:is[j]?=some b) (hij:i<j):(bs.getD j 0).testBit i=true∨apart a b=true:=by
 unfold commOk at h;rw [List.all_eq_true] at h;have h1:=h (b,j) (by rw [List.mem_zipIdx_iff_getElem?];exact hb);simp only at h1;rw [List.all_eq_true] at h1;have h2:=h1 (a,i) (by rw [List.mem_zipIdx_iff_getElem?];exact ha);simp only [wb,Bool.not_eq_true',decide_eq_false_iff_not] at h2;rcases h2 with (h2 | h2) | h2
 ·exact absurd hij h2
 ·exact .inl h2
 ·exact .inr h2
theorem zmp {a b:Info} (h:apart a b=true):(∀d,a.d=some d->d∉b.uses∧b.d≠some d)∧(∀d,b.d=some d->d∉a.uses)∧(∀i∈a.w,i∉b.w∧i∉b.r)∧(∀i∈a.r,i∉b.w):=by
 unfold apart at h;simp only [qq,List.all_eq_true] at h;obtain ⟨⟨⟨h1,h2⟩,h3⟩,h4⟩:=h;refine ⟨fun d hd=>?_,fun d hd=>?_,fun i hi=>?_,fun i hi=>?_⟩
 ·rw [hd] at h1;simpa using h1
 ·rw [hd] at h2;simpa using h2
 ·simpa using h3 i hi
 ·simpa using h4 i hi
theorem zG4 {ops:List Oper} (h:backOk ops=true) {j:Nat} {o:Oper} (ho:ops[j]?=some o) {e:Edge} (he:e∈o.after.toList) (hb:Region.binds .any e=true):e.on<j:=by
 unfold backOk at h;rw [List.all_eq_true] at h;have h1:=h (o,j) (by rw [List.mem_zipIdx_iff_getElem?];exact ho);simp only at h1;rw [List.all_eq_true] at h1;have h2:=h1 e he;simpa [hb] using h2
def todo (n:Nat) (listed:Array Bool):Nat:=((List.range n).filter fun i=> !listed.getD i true).length
theorem zqg {l:Array Bool} {i:Nat} (hi:i<l.size) (j:Nat) (d:Bool):(l.setIfInBounds i true).getD j d=if j=i then true else l.getD j d:=by
 simp only [Array.getD_eq_getD_getElem?,Array.getElem?_setIfInBounds];by_cases h:j=i
 ·subst h;simp [hi]
 ·rw [qc (fun e=>h e.symm),qc h]
theorem zJm {n:Nat} {l:Array Bool} (hn:l.size=n) {i:Nat} (hi:i<n) (hl:l.getD i true=false) {k:Nat} (h:todo n l=k+1):todo n (l.setIfInBounds i true)=k:=by
 unfold todo at h ⊢
 have key: ∀(m:Nat) (xs:List Nat),xs.Nodup->i∈xs->(xs.filter fun j=> !l.getD j true).length=m+1->(xs.filter fun j=> !(l.setIfInBounds i true).getD j true).length=m:=by
  intro m xs
  induction xs generalizing m with
  | nil=>intro _ h;simp at h
  | cons x xs ih=>
   intro hnd hmem hlen;rw [List.nodup_cons] at hnd;by_cases hx:x=i
   ·subst hx
    have e1:(xs.filter fun j=> !(l.setIfInBounds x true).getD j true)=xs.filter fun j=> !l.getD j true:=by
     apply List.filter_congr;intro j hj;rw [zqg (by omega),qc (fun e=>hnd.1 (by rw [<-e];exact hj))]
    rw [List.filter_cons_of_neg (by rw [zqg (by omega)];simp),e1];rw [List.filter_cons_of_pos (by simp [hl])] at hlen;simpa using hlen
   ·have hm':i∈xs:=by
     rcases qz.1 hmem with h | h
     ·exact absurd h.symm hx
     ·exact h
    by_cases hq:l.getD x true=true
    ·rw [List.filter_cons_of_neg (by rw [zqg (by omega),qc hx];simp [hq])];rw [List.filter_cons_of_neg (by simp [hq])] at hlen;exact ih m hnd.2 hm' hlen
    ·have hq':l.getD x true=false:=by simpa using hq
     rw [List.filter_cons_of_pos (by rw [zqg (by omega),qc hx];simp [hq'])];rw [List.filter_cons_of_pos (by simp [hq'])] at hlen;simp only [qD,Nat.add_right_cancel_iff] at hlen ⊢
     cases m with
     | zero=>
      have:i∈xs.filter fun j=> !l.getD j true:=List.mem_filter.2 ⟨hm',by simp [hl]⟩
      rw [List.eq_nil_of_length_eq_zero hlen] at this
      simp at this
     | succ m=>
      rw [ih m hnd.2 hm' hlen]
 exact key k (List.range n) List.nodup_range (by simpa using hi) h
theorem zMo {st st':St} {es:List Eff} {Q:Exit->Act->World->Prop} (hrun:Run E X all all.toList st es st') (hlen:es.length=all.toList.length) (hback:backOk all.toList=true) (hcomm:commOk (befores all.toList []) (List.zipWith (infoOf all) all.toList es)=true)
  (hQ: ∀a w,Inv X st' a w->Q .normal a w):
  ∀(fuel:Nat) (listed:Array Bool) (a:Act) (w:World),listed.size=all.size->todo all.size listed=fuel->
   (∀j,listed.getD j false=true-> ∀i,((befores all.toList []).getD j 0).testBit i=true->listed.getD i false=true)->Inv X (stS 0 (all.toList.zip es) (fun i=>listed.getD i false) st) a w->
   wpAny E.P .any all Q fuel listed a w:=by
 have hbs: ∀(j:Nat) (o:Oper),all.toList[j]?=some o-> ∀i,((befores all.toList []).getD j 0).testBit i=true-> ∃e∈o.after.toList,Region.binds .any e=true∧(i=e.on∨((befores all.toList []).getD e.on 0).testBit i=true):=by
  obtain ⟨tail,h1,h2,h3⟩:=zAg all.toList [];rw [qC] at h1;rw [h1];simpa using h3
 have hgetD: ∀(l:Array Bool) (j:Nat),l.size=all.size->j<all.size->l.getD j true=l.getD j false:=by
  intro l j hl hj;simp only [Array.getD_eq_getD_getElem?];rw [Array.getElem?_eq_getElem (by omega)];rfl
 have hget: ∀j,j<all.size-> ∃o,all.toList[j]?=some o∧all[j]?=some o:=by
  intro j hj;exact ⟨all[j],by simp [hj],by simp [hj]⟩
 have hready: ∀(l:Array Bool),l.size=all.size->todo all.size l≠0->Region.ready .any all l≠ []:=by
  intro l hl hne hnil
  have hex: ∃j,j<all.size∧l.getD j true=false:=by
   unfold todo at hne;obtain ⟨j,hj⟩:=List.exists_mem_of_ne_nil ((List.range all.size).filter fun i=> !l.getD i true) (fun h=>hne (by rw [h];rfl));rw [List.mem_filter] at hj;exact ⟨j,by simpa using hj.1,by simpa using hj.2⟩
  have hmin: ∀n,∀j,j<n->j<all.size->l.getD j true=true:=by
   intro n
   induction n with
   | zero=>intro j hj;omega
   | succ n ih=>
    intro j hj hja;by_cases hjn:j<n
    ·exact ih j hjn hja
    ·have hjn':j=n:=by omega
     subst hjn';apply Classical.byContradiction;intro hf;have hf':l.getD j true=false:=by simpa using hf
     obtain ⟨o,ho1,ho2⟩:=hget j hja
     have hin:j∈Region.ready .any all l:=by
      unfold Region.ready;rw [List.mem_filter];refine ⟨by simpa using hja,?_⟩;simp only [hf',qO,Bool.true_and,ho2,qY,Option.getD_some];rw [Array.all_eq_true_iff_forall_mem];intro e he;by_cases hb:Region.binds .any e=true
      ·have hlt:=zG4 hback ho1 (e:=e) (by simpa using he) hb;have:=ih e.on hlt (by omega);rw [hgetD l e.on hl (by omega)] at this;simp [hb,this]
      ·simp [hb]
     rw [hnil] at hin;simp at hin
  obtain ⟨j,hj,hjf⟩:=hex;rw [hmin (j+1) j (by omega) hj] at hjf;cases hjf
 have hdone: ∀(l:Array Bool) a w,l.size=all.size->todo all.size l=0->Inv X (stS 0 (all.toList.zip es) (fun i=>l.getD i false) st) a w->Q .normal a w:=by
  intro l a w hl h0 I
  rw [hrun.last 0 (fun i=>l.getD i false) (fun i _ hi=>by
   have hia:i<all.size:=by simpa using hi
   rw [<-hgetD l i hl hia];apply Classical.byContradiction;intro hf;unfold todo at h0;have hnil:=List.eq_nil_of_length_eq_zero h0;have:i∈(List.range all.size).filter fun i=> !l.getD i true:=List.mem_filter.2 ⟨by simpa using hia,by simpa using hf⟩
   rw [hnil] at this;simp at this)] at I
  exact hQ a w I
 intro fuel
 induction fuel with
 | zero=>
  intro l a w hl h0 _ I;refine ⟨?_,hdone l a w hl h0 I⟩;apply List.eq_nil_iff_forall_not_mem.2;intro i hi;unfold Region.ready at hi;rw [List.mem_filter] at hi;unfold todo at h0;have hnil:=List.eq_nil_of_length_eq_zero h0
  have:i∈(List.range all.size).filter fun i=> !l.getD i true:=List.mem_filter.2 ⟨hi.1,by
   have:=hi.2;simp only [qq] at this;exact this.1⟩
  rw [hnil] at this
  simp at this
 | succ fuel ih=>
  intro l a w hl h0 hcl I;refine ⟨fun hnil=>absurd hnil (hready l hl (by omega)),fun i hi=>?_⟩;unfold Region.ready at hi;rw [List.mem_filter] at hi;obtain ⟨hi1,hi2⟩:=hi;have hia:i<all.size:=by simpa using hi1
  obtain ⟨o,ho1,ho2⟩:=hget i hia;simp only [qq,Bool.not_eq_true',ho2,qY,Option.getD_some] at hi2;obtain ⟨hlf,hedges⟩:=hi2;have hlf':l.getD i false=false:=by rw [<-hgetD l i hl hia];exact hlf
  rw [Array.all_eq_true_iff_forall_mem] at hedges
  have hedge: ∀e∈o.after.toList,Region.binds .any e=true->l.getD e.on false=true:=by
   intro e he hb;have:=hedges e (by simpa using he);simpa [hb] using this
  obtain ⟨e,hpe⟩: ∃e,(all.toList.zip es)[i]?=some (o,e):=by
   have hil:i<es.length:=by rw [hlen];simpa using hia
   refine ⟨es[i],?_⟩;rw [List.getElem?_zip_eq_some];exact ⟨ho1,qu hil⟩
  have hbef: ∀i',((befores all.toList []).getD i 0).testBit i'=true->l.getD i' false=true:=by
   intro i' hb;obtain ⟨e',h1,h2,h3⟩:=hbs i o ho1 i' hb;rcases h3 with rfl | h3
   ·exact hedge e' h1 h2
   ·exact hcl e'.on (hedge e' h1 h2) i' h3
  have hgw:=hrun.at 0 i (o,e) hpe (fun k=>decide (k<i)) (fun k=>by simp)
  have happ: ∀(k:Nat) (q:Oper×Eff),(all.toList.zip es)[k]?=some q->l.getD k false≠decide (k<i)->(k<i->apart (infoOf all q.1 q.2) (infoOf all o e)=true)∧(i<k->apart (infoOf all o e) (infoOf all q.1 q.2)=true)∧k≠i:=by
   intro k q hq hne;refine ⟨fun hk=>?_,fun hk=>?_,fun hk=>?_⟩
   ·rcases zBu hcomm (zsU hq) (zsU hpe) hk with h | h
    ·exact absurd (by rw [hbef k h];simp [hk]) hne
    ·exact h
   ·have hkt:l.getD k false=true:=by
     have:decide (k<i)=false:=by simp;omega
     rw [this] at hne;simpa using hne
    rcases zBu hcomm (zsU hpe) (zsU hq) hk with h | h
    ·rw [hcl k hkt i h] at hlf';cases hlf'
    ·exact h
   ·subst hk;rw [hlf'] at hne;simp at hne
  have halT: ∀t∈(infoOf all o e).uses,(stS 0 (all.toList.zip es) (fun i=>l.getD i false) st).t t=(stS 0 (all.toList.zip es) (fun k=>decide (k<i)) st).t t:=by
   intro t ht;refine cmpT _ 0 st st (fun k q hq hne=>?_) rfl;rw [qJ] at hne;obtain ⟨a1,a2,a3⟩:=happ k q hq hne;intro hd;rcases Nat.lt_trichotomy k i with h | h | h
   ·exact ((zmp (a1 h)).1 t hd).1 ht
   ·exact a3 h
   ·exact (zmp (a2 h)).2.1 t hd ht
  have halO: ∀x,x∈e.w∨x∈e.r->(stS 0 (all.toList.zip es) (fun i=>l.getD i false) st).o x=(stS 0 (all.toList.zip es) (fun k=>decide (k<i)) st).o x:=by
   intro x hx;refine cmpO _ 0 st st (fun k q hq hne=>?_) rfl;rw [qJ] at hne;obtain ⟨a1,a2,a3⟩:=happ k q hq hne;intro hd;rcases Nat.lt_trichotomy k i with h | h | h
   ·have:=(zmp (a1 h)).2.2.1 x hd;rcases hx with hx | hx
    ·exact this.1 hx
    ·exact this.2 hx
   ·exact a3 h
   ·rcases hx with hx | hx
    ·exact ((zmp (a2 h)).2.2.1 x hx).1 hd
    ·exact (zmp (a2 h)).2.2.2 x hx hd
  have hins: ∀a' w',Inv X ((stS 0 (all.toList.zip es) (fun i=>l.getD i false) st).app o.dst e) a' w'->wpAny E.P .any all Q fuel (l.setIfInBounds i true) a' w':=by
   intro a' w' I';refine ih (l.setIfInBounds i true) a' w' (by simpa using hl) (zJm hl hia hlf h0) (fun j hj i' hb=>?_) ?_
   ·rw [zqg (by omega)] at hj ⊢;by_cases hji:j=i
    ·subst hji;split
     ·rfl
     ·exact hbef i' hb
    ·rw [qc hji] at hj;split
     ·rfl
     ·exact hcl j hj i' hb
   ·have:=zGD (S:=fun k=>l.getD k false) (S1:=fun k=>(l.setIfInBounds i true).getD k false) (j:=i) (st:=st) hpe (by rw [zqg (by omega),qb rfl]) (fun k hk=>by rw [zqg (by omega),qc hk])
     (fun k q t hk hq hs hd hq'=>by
      obtain ⟨_,a2,_⟩:=happ k q hq (by have:decide (k<i)=false:=(by simp;omega);rw [hs,this];simp);exact ((zmp (a2 hk)).1 t hd).2 hq')
     (fun k q x hk hq hs hd hq'=>by
      obtain ⟨_,a2,_⟩:=happ k q hq (by have:decide (k<i)=false:=(by simp;omega);rw [hs,this];simp);exact ((zmp (a2 hk)).2.2.1 x hd).1 hq')
    rw [this];exact I'
  unfold wpOp;rw [ho2];exact hgw _ halT halO a w I _ Q hins
theorem Inv.drew {st:St} {a:Act} {w:World} (I:Inv X st a w):Inv X st a {w with drawn:=w.drawn+1}:=by
 obtain ⟨N,hd,F,I⟩:=I;exact ⟨N,hd,F,I.s,I.t,I.defers,I.size,I.io,⟨I.fr.os,I.fr.tape,I.fr.output,I.fr.size,I.fr.block,I.fr.up,I.fr.new,I.fr.own⟩⟩
theorem zIp {O:Oracle E} (hC:CSoundX X E O) (hm:E.P.follows .mixedOrders=true) {R:Type} {r:R} {id:Nat} {draw:Bool} {st:St} {K:St->Option R}
  (h:(evOps E O all X.io X.nt all.toList st [] fun is st'=>if draw=false∨(backOk all.toList&&commOk (befores all.toList []) is)=true then K st' else none)=some r):
  ∃st',K st'=some r∧ ∀(Q:Exit->Act->World->Prop) a w,Inv X st a w->(∀a w,Inv X st' a w->Q .normal a w)->(Code.region id all draw).wp E.P Q a w:=by
 obtain ⟨es,st',hrun,hl,h⟩:=zvA hC _ _ _ _ h;by_cases hc0:draw=false∨(backOk all.toList&&commOk (befores all.toList []) ([].reverse++List.zipWith (infoOf all) all.toList es))=true
 ·rw [qb hc0] at h;have hc:draw=false∨(backOk all.toList&&commOk (befores all.toList []) (List.zipWith (infoOf all) all.toList es))=true:=hc0;refine ⟨st',h,fun Q a w I hQ=>?_⟩
  cases draw with
  | false=>
   refine wp_region ?_;have:=hrun.wpOps (Q:=Q) 0 (fun i _=>by simp) a w I hQ
   simpa [List.range_eq_range'] using this
  | true=>
   have hc':(backOk all.toList&&commOk (befores all.toList []) (List.zipWith (infoOf all) all.toList es))=true:=by
    rcases hc with hc | hc
    ·cases hc
    ·exact hc
   rw [qq] at hc'
   have hrep: ∀(i:Nat) (d:Bool),i<all.size->(Array.replicate all.size false).getD i d=false:=by
    intro i d hi;simp [Array.getD_eq_getD_getElem?,Array.getElem?_replicate,hi]
   have hrep': ∀(i:Nat),(Array.replicate all.size false).getD i false=false:=by
    intro i;by_cases hi:i<all.size
    ·exact hrep i false hi
    ·simp [Array.getD_eq_getD_getElem?,Array.getElem?_replicate,hi]
   refine wp_region_any hm (zMo hrun hl hc'.1 hc'.2 hQ all.size _ a _ (by simp) ?_ (fun j hj=>?_) ?_)
   ·unfold todo;rw [List.filter_eq_self.2 (fun i hi=>by rw [hrep i true (by simpa using hi)];rfl),List.length_range]
   ·rw [hrep'] at hj;cases hj
   ·rw [zvo _ _ _ _ (fun i _ _=>hrep' i)];exact I.drew
 ·rw [qc hc0] at h;cases h
end
theorem zE1 {m:Mem} {N:Nat->Prop} {s:Sto} {hd:Nat->Value} {val:Nat->Value}: ∀ {ts:List Nat} {vs:List V},RepVs m N s hd vs (ts.map val)-> ∀i,RepV m N s hd (laid ts vs i) (val i)
 | [],[],_,_=>trivial
 | t::ts,v::vs,⟨h1,h2⟩,i=>by
  simp only [laid];by_cases h:i=t
  ·rw [qb h,h];exact h1
  ·rw [qc h];exact zE1 h2 i
theorem SInv.zero {m:Mem} {N:Nat->Prop} {size:Nat} (h: ∀k,N k->k<size):SInv m N sto0 (fun _=>undef) (fun _=> []) size:=
 ⟨fun _=>rfl,by simp,fun _=>List.nodup_nil,by simp,by simp,h⟩
theorem zFp {m:Mem} {N:Nat->Prop} {size:Nat} {τ:Ty} {x:τ.den} {ts:List Nat} {val:Nat->Value} {G:List Nat} (h:RepAs m N τ x (ts.map val) G) (hnd:G.Nodup) (hG: ∀k∈G,k<size∧ ¬N k) (hN: ∀k,N k->k<size):
  ∃hd F,SInv m N (stOf ts τ x).o hd F size∧(∀i k,k∈F i->k∈G)∧ ∀t,RepV m N (stOf ts τ x).o hd ((stOf ts τ x).t t) (val t):=by
 obtain ⟨hd,F,k,r,_⟩:=zD3 τ x sto0 1000000 (SInv.zero (m:=m) hN) h ⟨hnd,fun k hk=>(hG k hk).1,fun k hk=>(hG k hk).2,by simp⟩;refine ⟨hd,F,k.inv,fun i j hj=>?_,fun t=>zE1 r t⟩;rcases k.sub i j hj with h | h
 ·simp at h
 ·exact h
section
variable {E : Env} {X : Ctx}
theorem Inv.vals {st:St} {a:Act} {w:World} {N:Nat->Prop} {hd:Nat->Value} {F:Nat->List Nat} (I:InvD X st a w N hd F): ∀ts:List Nat,RepVs (memOf w) N st.o hd (ts.map st.t) (ts.map fun t=>a.tmps.getD t undef)
 | []=>trivial
 | t::ts=>⟨I.t t,Inv.vals I ts⟩
theorem zLR {ts:List Nat} {τ:Ty} {x:τ.den} {st:St} (h:prSt ts τ st=some x) {a:Act} {w:World} (I:Inv X st a w):Inv X (stOf ts τ x) a w:=by
 unfold prSt at h;split at h
 ·rename_i q hq;obtain rfl:=qh h;obtain ⟨N,hd,F,I⟩:=I;obtain ⟨N1,F1,G,j⟩:=zxb false _ _ _ _ _ hq I.s (Inv.vals I ts)
  obtain ⟨hd2,F2,k1,k2,k3⟩:=zFp (m:=memOf w) (N:=N1) (size:=w.heap.size) (ts:=ts) (val:=fun t=>a.tmps.getD t undef) j.rep j.nod (fun k hk=>by
   obtain ⟨⟨i,hi⟩,h2,_⟩:=j.own k hk;exact ⟨I.s.ltF i k hi,h2⟩) j.inv.ltN
  refine ⟨N1,hd2,F2,k1,k3,I.defers,I.size,I.io,I.fr.move (Moves.refl w) (by simp) j.up (fun k hk=>?_) (fun i k hk=>?_)⟩
  ·rcases j.new k hk with h | h
   ·exact .inl h
   ·exact .inr (.inl h)
  ·exact .inl (j.own k (k2 i k hk)).1
 ·cases h
theorem zBw {t b:Nat}: ∀l:List (Nat×Nat),l.lookup t=some b->(t,b)∈l
 | [],h=>by cases h
 | (p1,p2)::r,h=>by
  rw [List.lookup_cons] at h;split at h
  ·rename_i he;simp only [beq_iff_eq] at he;obtain rfl:=qh h;rw [he];exact qv ..
  ·exact qn _ (zBw r h)
theorem zBN {st:St} {a:Act} {w:World} {N:Nat->Prop} {hd:Nat->Value} {F:Nat->List Nat} (I:InvD X st a w N hd F) {b off:Nat} {c:C} (h:cellOf st b off=some c):
  ∃(g:Nat) (es:List Value) (T:TypeId) (v:Value),a.tmps.getD b undef= .pointer (some ⟨g,0,none⟩)∧memOf w g=some (.cells ⟨es⟩ T (0,0))∧es[off]?=some v∧RepC (memOf w) N st.o hd c v:=by
 unfold cellOf at h;split at h
 ·rename_i id ver e1;split at h
  ·rename_i w' cs hs;split at h
   ·rename_i hv;subst hv;have r1:=I.t b;rw [e1] at r1;obtain ⟨g,e2,e3⟩:=r1.2.2 (by rw [hs]) (by rw [hs];rfl);have hob:=I.s.obj id;rw [hs] at hob;obtain ⟨g',es,T,e4,e5,e6,_⟩:=hob;rw [e2] at e4;simp only [Value.pointer.injEq,qI,Addr.mk.injEq,and_true] at e4;subst e4
    have key: ∀(cs:List C) (es:List Value) (off:Nat),RepCs (memOf w) N st.o hd cs es->cs[off]?=some c-> ∃v,es[off]?=some v∧RepC (memOf w) N st.o hd c v:=by
     intro cs
     induction cs with
     | nil=>intro es off _ h;simp at h
     | cons d r ih=>
      intro es off hr h
      cases es with
      | nil=>exact hr.elim
      | cons v es=>
       cases off with
       | zero=>
        simp only [List.getElem?_cons_zero,qI] at h;subst h
        exact ⟨v,rfl,hr.1⟩
       | succ off=>simpa using ih es off hr.2 (by simpa using h)
    obtain ⟨v,v1,v2⟩:=key cs es off e6 h;exact ⟨g,es,T,v,by simpa using e3,e5,v1,v2⟩
   ·cases h
  ·cases h
 ·cases h
theorem zw5 {ts:List Nat} {al:List (Nat×Nat)} {τ:Ty} {x:τ.den} {st:St} (h:prStA ts al τ st=some x) {a:Act} {w:World} (I:Inv X st a w):Inv X (stOfA ts al τ x) a w:=by
 unfold prStA at h;split at h
 ·rename_i hal;obtain ⟨N2,hd2,F2,I2⟩:=zLR h I;obtain ⟨N,hd,F,I⟩:=I;refine ⟨N2,hd2,F2,I2.s,fun t=>?_,I2.defers,I2.size,I2.io,I2.fr⟩
  show RepV (memOf w) N2 (stOf ts τ x).o hd2 (match al.lookup t with
   | some b=>if b<65536 then (stOf ts τ x).t b else match cellOf (stOf ts τ x) (b % 65536) (b / 65536-1) with
    | some c=> .one c
    | none=> .undef
   | none=>(stOf ts τ x).t t) _
  split
  ·rename_i b hb;have h1:=(List.all_eq_true.1 hal) _ (zBw al hb);simp only at h1;split
   ·rename_i hlt;rw [qb hlt] at h1;split at h1
    ·rename_i i v j u e1 e2;simp only [qq,beq_iff_eq] at h1;obtain ⟨rfl,rfl,h3,h4⟩:=h1;have r1:=I.t t;rw [e1] at r1;have r2:=I.t b;rw [e2] at r2;have q1:a.tmps.getD t undef=hd i:=r1.2.2 h3 h4;have q2:a.tmps.getD b undef=hd i:=r2.2.2 h3 h4;rw [q1,<-q2];exact I2.t b
    ·cases h1
   ·rename_i hlt;rw [qc hlt] at h1;split
    ·rename_i c hc;split at h1
     ·rename_i i v j u e1 e2;simp only [qq,beq_iff_eq] at h1;obtain ⟨rfl,rfl,h3,h4⟩:=h1;have r1:=I.t t;rw [e1] at r1;have q1:a.tmps.getD t undef=hd i:=r1.2.2 h3 h4;obtain ⟨g,es,T,v1,a1,a2,a3,a4⟩:=zBN I e2;obtain ⟨g',es',T',v2,b1,b2,b3,b4⟩:=zBN I2 hc;have q2:v1=hd i:=a4.2.2 h3 h4;rw [a1] at b1;simp only [Value.pointer.injEq,qI,Addr.mk.injEq,and_true] at b1;subst b1;rw [a2] at b2;simp only [qI,Go.Obj.cells.injEq] at b2
      have:es=es':=by
       have:=b2.1;simpa using this
      subst this;rw [a3] at b3;obtain rfl:=qh b3;rw [q1,<-q2];exact b4
     ·cases h1
    ·trivial
  ·exact I2.t t
 ·cases h
theorem RepAs.length {m:Mem} {N:Nat->Prop}: ∀ {τs:Ty} {x:τs.den} {us:List Value} {G:List Nat},RepAs m N τs x us G->us.length=nFs τs
 | .nil,_,us,_,h=>by rw [h.1];rfl
 | .cons a r,_,_::us,_,⟨_,_,_,_,h⟩=>by simp [nFs,RepAs.length h]
theorem zyB: ∀(io:List Bool) (i:Nat),∀j∈ioTmps io i,i<=j∧j<i+io.length
 | [],_,_,h=>by simp [ioTmps] at h
 | true::io,i,j,h=>by
  simp only [ioTmps] at h;rcases qz.1 h with rfl | h
  ·simp
  ·have:=zyB io (i+1) j h
   simp;omega
 | false::io,i,j,h=>by
  simp only [ioTmps] at h;have:=zyB io (i+1) j h;simp;omega
theorem zEp: ∀ {io:List Bool} {τs:Ty},ioOk io τs=true->io.length=nFs τs
 | [],.nil,_=>rfl
 | _::io,.cons _ r,h=>by simp [nFs,zEp (io:=io) (τs:=r) h]
 | [],.bool,h | [],.int _,h | [],.str,h | [],.sl _,h | [],.own _,h | [],.agg _,h | [],.cons _ _,h | [],.ptr _,h | [],.box _,h | [],.fn _ _,h | [],.tree,h | [],.unk,h | [],.opq,h | [],.map _,h | [],.mv _,h | [],.imap _,h | [],.iter _,h | [],.optr _,h | [],.sb _ _,h=>by simp [ioOk] at h
 | _::_,.nil,h | _::_,.bool,h | _::_,.int _,h | _::_,.str,h | _::_,.sl _,h | _::_,.own _,h | _::_,.agg _,h | _::_,.ptr _,h | _::_,.box _,h | _::_,.fn _ _,h | _::_,.tree,h | _::_,.unk,h | _::_,.opq,h | _::_,.map _,h | _::_,.mv _,h | _::_,.imap _,h | _::_,.iter _,h | _::_,.optr _,h | _::_,.sb _ _,h=>by simp [ioOk] at h
theorem zxM {m:Mem} {N:Nat->Prop}: ∀(io:List Bool) (τs:Ty) (z:(ioTy io τs).den) (us:List Value) (i:Nat) (val:Nat->Value) (G:List Nat),ioOk io τs=true->us.length=io.length->(∀j (h:j<us.length),val (i+j)=us[j])->
  RepAs m N (ioTy io τs) z ((ioTmps io i).map val) G->RepBack m N io τs z us G
 | [],.nil,z,[],i,val,G,_,_,_,h=>h.2
 | true::io,.cons a r,z,u::us,i,val,G,ho,hl,hv,h=>by
  obtain ⟨F1,F2,e,h1,h2⟩:=h;have h0:val i=u:=hv 0 (by simp);rw [h0] at h1
  exact ⟨F1,F2,e,h1,zxM io r z.2 us (i+1) val F2 ho (by simpa using hl) (fun j hj=>by
   have:=hv (j+1) (by simpa using hj)
   rw [Nat.add_assoc,Nat.add_comm 1];simpa using this) h2⟩
 | false::io,.cons a r,z,u::us,i,val,G,ho,hl,hv,h=>
  zxM io r z us (i+1) val G ho (by simpa using hl) (fun j hj=>by
   have:=hv (j+1) (by simpa using hj)
   rw [Nat.add_assoc,Nat.add_comm 1];simpa using this) h
 | [],.nil,_,_::_,_,_,_,_,hl,_,_=>by simp at hl
 | _::_,.cons _ _,_,[],_,_,_,_,hl,_,_=>by simp at hl
 | [],.bool,_,_,_,_,_,h,_,_,_ | [],.int _,_,_,_,_,_,h,_,_,_ | [],.str,_,_,_,_,_,h,_,_,_ | [],.sl _,_,_,_,_,_,h,_,_,_ | [],.own _,_,_,_,_,_,h,_,_,_ | [],.agg _,_,_,_,_,_,h,_,_,_ | [],.cons _ _,_,_,_,_,_,h,_,_,_
 | [],.ptr _,_,_,_,_,_,h,_,_,_ | [],.box _,_,_,_,_,_,h,_,_,_ | [],.fn _ _,_,_,_,_,_,h,_,_,_ | [],.tree,_,_,_,_,_,h,_,_,_ | [],.unk,_,_,_,_,_,h,_,_,_ | [],.opq,_,_,_,_,_,h,_,_,_ | [],.map _,_,_,_,_,_,h,_,_,_ | [],.mv _,_,_,_,_,_,h,_,_,_ | [],.imap _,_,_,_,_,_,h,_,_,_ | [],.iter _,_,_,_,_,_,h,_,_,_ | [],.optr _,_,_,_,_,_,h,_,_,_ | [],.sb _ _,_,_,_,_,_,h,_,_,_=>by simp [ioOk] at h
 | _::_,.nil,_,_,_,_,_,h,_,_,_ | _::_,.bool,_,_,_,_,_,h,_,_,_ | _::_,.int _,_,_,_,_,_,h,_,_,_ | _::_,.str,_,_,_,_,_,h,_,_,_ | _::_,.sl _,_,_,_,_,_,h,_,_,_ | _::_,.own _,_,_,_,_,_,h,_,_,_ | _::_,.agg _,_,_,_,_,_,h,_,_,_
 | _::_,.ptr _,_,_,_,_,_,h,_,_,_ | _::_,.box _,_,_,_,_,_,h,_,_,_ | _::_,.fn _ _,_,_,_,_,_,h,_,_,_ | _::_,.tree,_,_,_,_,_,h,_,_,_ | _::_,.unk,_,_,_,_,_,h,_,_,_ | _::_,.opq,_,_,_,_,_,h,_,_,_ | _::_,.map _,_,_,_,_,_,h,_,_,_ | _::_,.mv _,_,_,_,_,_,h,_,_,_ | _::_,.imap _,_,_,_,_,_,h,_,_,_ | _::_,.iter _,_,_,_,_,_,h,_,_,_ | _::_,.optr _,_,_,_,_,_,h,_,_,_ | _::_,.sb _ _,_,_,_,_,_,h,_,_,_=>by simp [ioOk] at h
theorem zAs {P:Program} {R:Type} {r:R} {g:ResultVar->Sem Value} {st:St} {a:Act} {w:World} (hg1: ∀t,g (.tmp t)=pure (a.tmps.getD t undef)) (hg2: ∀x t,g (.cell x t)=do loadVar t (<-asAddr (a.tmps.getD x undef)))
  {N:Nat->Prop} {hd:Nat->Value} {F:Nat->List Nat} (I:InvD X st a w N hd F): ∀(res:List ResultVar) (K:List V->Option R),resVs P st res K=some r->
   ∃vs us,K vs=some r∧RepVs (memOf w) N st.o hd vs us∧Sem.run P (res.mapM g) w= .ok us w
 | [],K,h=>⟨[],[],h,trivial,by simp⟩
 | .tmp t::res,K,h=>by
  obtain ⟨vs,us,h1,h2,h3⟩:=zAs hg1 hg2 I res _ h;refine ⟨_,a.tmps.getD t undef::us,h1,⟨I.t t,h2⟩,?_⟩;rw [List.mapM_cons,hg1,Sem.run_bind];simp only [Sem.run_pure,Result.andThen_ok];rw [Sem.run_bind,h3]
  simp
 | .cell x t::res,K,h=>by
  simp only [resVs] at h;split at h
  ·rename_i c hc;obtain ⟨cs,m,h,hat⟩:=zBK h;split at h
   ·rename_i hif;obtain ⟨hok,hl,hs1⟩:=hif;obtain ⟨vs,us,h1,h2,h3⟩:=zAs hg1 hg2 I res _ h;have hx:=I.t x;rw [hc] at hx;obtain ⟨b,off,us',e1,e2,e3⟩:=hat st.o (fun _ _=>rfl) I.s _ hx
    have hlu:(us'.take (szP P t)).length=szP P t:=by
     have:=e2.len;simp only [List.length_take] at hl ⊢; omega
    obtain ⟨u,hr,hu⟩:=zm7 e3 hok hlu hs1;refine ⟨_,u::us,h1,⟨(zsQ e2.take hu).1,h2⟩,?_⟩;rw [List.mapM_cons,hg2,e1,Sem.run_bind];simp only [asAddr,Sem.run_bind,Sem.run_pure,Result.andThen_ok,hr,h3]
   ·cases h
  ·cases h
theorem zFR {P:Program} {R:Type} {r:R} {fn:Func} {st:St} {a:Act} {w:World} {N:Nat->Prop} {hd:Nat->Value} {F:Nat->List Nat} (I:InvD X st a w N hd F) {K:List V->Option R} (h:resVs P st fn.results.toList K=some r):
  ∃vs us,K vs=some r∧RepVs (memOf w) N st.o hd vs us∧(results fn a.tmps).run P w= .ok (retOf us) w:=by
 unfold results
 obtain ⟨vs,us,h1,h2,h3⟩:=zAs (P:=P) (g:=fun
  | .tmp t=>pure (a.tmps.getD t undef)
  | .cell x t=>do loadVar t (<-asAddr (a.tmps.getD x undef))) (fun _=>rfl) (fun _ _=>rfl) I fn.results.toList K h
 refine ⟨vs,us,h1,h2,?_⟩
 have h3':Sem.run P (fn.results.mapM fun
  | .tmp t=>pure (a.tmps.getD t undef)
  | .cell x t=>do loadVar t (<-asAddr (a.tmps.getD x undef))) w= .ok us.toArray w:=by
  rw [Array.mapM_eq_mapM_toList,Sem.run_map,h3];rfl
 rw [Sem.run_bind];refine (congrArg (fun q=>Result.andThen q _) h3').trans ?_;simp only [Result.andThen_ok,Sem.run_pure]
 match us with
 | []=>rfl
 | [t]=>rfl
 | t::t'::l=>
  have: ¬((t::t'::l).toArray.size=1):=by simp
  rw [dif_neg this];rfl
def RetAt (E:Env) (f:Nat) (fn:Func) (us:List Value) (X:Ctx) (y:E.Ret f) (a:Act) (w:World):Prop:=
 a.defers= []∧ ∃v,(results fn a.tmps).run E.P w= .ok v w∧ ∃N' rs G1 G2,Done E f y.1 y.2 us X.F0 X.N0 X.w0 v w N' rs G1 G2
theorem zD1 {f:Nat} {fn:Func} {res:List ResultVar} {us:List Value} {st:St} {y:E.Ret f} (h:prRet E f res st=some y) (hres:fn.results.toList=res) (hio:X.io=ioTmps (E.io f) 0) (hok:ioOk (E.io f) (E.ps f)=true) (hus:us.length=(E.io f).length)
  (hav: ∀j,X.av j=us.getD j undef) {a:Act} {w:World} (I:Inv X st a w):RetAt E f fn us X y a w:=by
 subst hres;unfold prRet at h;obtain ⟨N,hd,F,I⟩:=I;obtain ⟨vs,rvs,h,hvs,hrun⟩:=zFR I h;split at h
 ·rename_i p hp;split at h
  ·rename_i q hq;obtain rfl:=qh h;obtain ⟨N1,F1,G1,j1⟩:=zxb false _ _ _ _ _ hp I.s hvs;have hv2:RepVs (memOf w) N1 p.s hd ((ioTmps (E.io f) 0).map st.t) ((ioTmps (E.io f) 0).map fun t=>a.tmps.getD t undef):=RepVs.goes (fun b hb=>⟨j1.up b hb,rfl⟩) j1.goes (Inv.vals I _);obtain ⟨N2,F2,G2,j2⟩:=zxb false _ _ _ _ _ hq j1.inv hv2;have hold: ∀i k,k∈F i->k∈X.F0∨X.w0.heap.size<=k:=fun i k hk=>(I.fr.own i k hk).symm
   have hmap:((ioTmps (E.io f) 0).map fun t=>a.tmps.getD t undef)=(ioTmps (E.io f) 0).map X.av:=List.map_congr_left fun t ht=>I.io t (by rw [hio];exact ht)
   have hrep2:=j2.rep;rw [hmap] at hrep2
   refine ⟨I.defers,_,hrun,N2,rvs,G1,G2,⟨I.fr.os,I.fr.tape,I.fr.output,I.fr.size,I.fr.block⟩,fun k hk=>j2.up k (j1.up k (I.fr.up k hk)),fun k hk=>?_,j2.inv.ltN,rfl,RepAs.mono (fun b hb=>⟨j2.up b hb,rfl⟩) (fun _ _=>rfl) j1.rep,
    zxM (E.io f) (E.ps f) q.x us 0 X.av G2 hok hus (fun j hj=>by rw [hav,qJ];simp [List.getD,qu hj]) hrep2,?_,fun k hk=>?_⟩
   ·have h1:N k∨ ∃i,k∈F i:=by
     rcases j2.new k hk with h | ⟨i,h⟩
     ·exact j1.new k h
     ·exact .inr ⟨i,j1.sub i k h⟩
    rcases h1 with h | ⟨i,h⟩
    ·rcases I.fr.new k h with h | h | h
     ·exact .inl h
     ·exact .inr (.inr h)
     ·exact .inr (.inl h)
    ·rcases I.fr.own i k h with h | h
     ·exact .inr (.inr h)
     ·exact .inr (.inl h)
   ·rw [qN];refine ⟨j1.nod,j2.nod,fun k hk k' hk' e=>?_⟩;subst e;obtain ⟨⟨i,hi⟩,_⟩:=j2.own k hk';exact (j1.own k hk).2.2 i hi
   ·rcases qr.1 hk with h | h
    ·obtain ⟨⟨i,hi⟩,h2,h3⟩:=j1.own k h;refine ⟨I.s.ltF i k hi,fun hn=>?_,hold i k hi⟩;rcases j2.new k hn with h' | ⟨i',h'⟩
     ·exact h2 h'
     ·exact h3 i' h'
    ·obtain ⟨⟨i,hi⟩,h2,h3⟩:=j2.own k h;exact ⟨I.s.ltF i k (j1.sub i k hi),h2,hold i k (j1.sub i k hi)⟩
  ·cases h
 ·cases h
theorem zKe {f:Nat} {x:(E.ps f).den} {w:World} {N:Nat->Prop} {us:List Value} {G:List Nat} (h:RepAs (memOf w) N (E.ps f) x us G) (hnd:G.Nodup) (hG: ∀k∈G,k<w.heap.size∧ ¬N k) (hN: ∀k,N k->k<w.heap.size) {nt:Nat} (hnt:us.length<=nt):
  Inv {w0:=w,N0:=N,F0:=G,nt:=nt,io:=ioTmps (E.io f) 0,av:=fun j=>us.getD j undef} (stOf (List.range (nFs (E.ps f))) (E.ps f) x) {tmps:=us.toArray++Array.replicate (nt-us.toArray.size) undef,defers:= []} w∨ ¬(∀j∈ioTmps (E.io f) 0,j<us.length):=by
 by_cases hj: ∀j∈ioTmps (E.io f) 0,j<us.length
 ·left
  have hget: ∀t,t<us.length->(us.toArray++Array.replicate (nt-us.toArray.size) undef).getD t undef=us.getD t undef:=by
   intro t ht;simp [Array.getD_eq_getD_getElem?,List.getD,Array.getElem?_append,ht]
  have hmap:(List.range (nFs (E.ps f))).map (fun t=>(us.toArray++Array.replicate (nt-us.toArray.size) undef).getD t undef)=us:=by
   rw [<-h.length];apply List.ext_getElem
   ·simp
   ·intro i h1 h2;simp only [List.getElem_map,List.getElem_range];rw [hget i h2];simp [List.getD,qu h2]
  obtain ⟨hd,F,k1,k2,k3⟩:=zFp (m:=memOf w) (N:=N) (size:=w.heap.size) (τ:=E.ps f) (x:=x) (ts:=List.range (nFs (E.ps f))) (val:=fun t=>(us.toArray++Array.replicate (nt-us.toArray.size) undef).getD t undef) (G:=G) (by rw [hmap];exact h) hnd hG hN;exact ⟨N,hd,F,k1,k3,rfl,by simp;omega,fun j hj'=>hget j (hj j hj'),⟨rfl,rfl,rfl,ql _,fun _ _ _=>rfl,fun _ h=>h,fun _ h=> .inl h,fun i k hk=> .inr (k2 i k hk)⟩⟩
 ·exact .inr hj
end
def exOf:Ex->Exit
 | .normal=> .normal
 | .exit i=> .exit i
structure Fit (E:Env) (f nt:Nat) (res:List ResultVar) (fn:Func) (us:List Value) (X:Ctx):Prop where
 res:fn.results.toList=res
 nt:nt=X.nt
 io:X.io=ioTmps (E.io f) 0
 ok:ioOk (E.io f) (E.ps f)=true
 len:us.length=(E.io f).length
 av: ∀j,X.av j=us.getD j undef
 tabs: ∀w N F,Fr X w N F->E.tabs w N
def LSound (E:Env) (n:Nat) (L:(f:Nat)->(h:LoopH)->Code->h.hτ.den->Option (h.oτ.den⊕E.Ret f)):Prop:=
 ∀(f:Nat) (h:LoopH) (c:Code) (x:h.hτ.den) (v:h.oτ.den⊕E.Ret f),L f h c x=some v-> ∀(fn:Func) (body:Code) (res:List ResultVar) (us:List Value) (X:Ctx),E.P.funcs[rl f]?=some fn->fn.body=some body->Fit E f fn.ntmps res fn us X->
  ∀(Q:Exit->Act->World->Prop) a w,Inv X (stOfA h.ht h.hal h.hτ x) a w->(∀y,v= .inl y-> ∀a w,Inv X (stOfA h.ot h.oal h.oτ y) a w->Q (.exit h.ex) a w)->(∀y,v= .inr y-> ∀a w,RetAt E f fn us X y a w->Q .ret a w)->
   Code.rounds E.P c Q n a w
theorem zIX {X:Ctx} {R:Type} {t:Nat} {st:St} {k:St->Option R} {r:R} (h:forceK t st k=some r) {a:Act} {w:World} (I:Inv X st a w): ∃st2,k st2=some r∧Inv X st2 a w:=by
 obtain ⟨N,hd,F,I⟩:=I;unfold forceK at h;split at h
 ·rename_i id ver _;split at h
  ·rename_i v e xs hs;split at h
   ·split at h
    ·rename_i hall;refine ⟨_,h,N,hd,F,?_⟩;have hob:=I.s.obj id;rw [hs] at hob;have hv:v=(st.o id).1:=by rw [hs]
     have hl:List.length (forceL xs)=List.length xs:=qV ..
     have hg:Goes st.o (st.o.set id (v,.vec (.own e) (forceL xs))) hd hd:=by
      subst hv;exact Goes.set_like id _ (fun _=>by rw [hs];exact ⟨rfl,rfl,Nat.le_of_eq hl.symm⟩) (by simp [Obj.isB])
     have hF:(fun i=>if i=id then F id else F i)=F:=by
      funext i;by_cases e:i=id
      ·simp [e]
      ·simp [e]
     have hinv:=I.s.upd (N':=N) (hd':=hd) id (v,.vec (.own e) (forceL xs)) (F id) (ql _) (fun b hb=>⟨hb,rfl⟩) (fun k hk=>⟨I.s.ltN k hk,fun i _ hki=>I.s.sep i k hki hk,fun h=>I.s.sep id k h hk⟩) (fun _ _ _ _=>rfl) (I.s.nodup id) (fun k hk=>⟨I.s.ltF id k hk,fun i hi h=>hi (I.s.once i id k h hk)⟩) hg (fun _ _=>rfl) (zIJ hall hob);rw [hF] at hinv;exact ⟨hinv,fun t=>RepV.goes (fun b hb=>⟨hb,rfl⟩) hg (I.t t),I.defers,I.size,I.io,I.fr⟩
    ·cases h
   ·cases h
  ·rename_i v e xs _ hs;split at h
   ·rename_i hcond;obtain ⟨rfl,he⟩:=hcond;obtain ⟨h1,h2,_⟩:=zCZ I.s he hs _ rfl;refine ⟨_,h,_,hd,_,h1,fun t=>RepV.goes (fun b hb=>⟨.inl hb,rfl⟩) h2 (I.t t),I.defers,I.size,I.io,?_⟩;refine I.fr.move (W:= []) (Moves.refl w) (by simp) (fun k hk=> .inl hk) (fun k hk=>?_) (fun i k hk=>?_)
    ·rcases hk with hk | hk
     ·exact .inl hk
     ·exact .inr (.inl ⟨_,hk⟩)
    ·by_cases hi:i=id
     ·simp [hi] at hk
     ·simp only [hi,qe] at hk;exact .inl ⟨i,hk⟩
   ·cases h
  ·rename_i v e xs i y off id' ver' hs;split at h
   ·rename_i hcond;obtain ⟨rfl,hne⟩:=hcond;split at h
    ·rename_i ys s' hf;obtain ⟨F',J,g,hF⟩:=zGY I.s hs hne hf;refine ⟨_,h,N,hd,F',J,fun t=>RepV.goes (fun b hb=>⟨hb,rfl⟩) g (I.t t),I.defers,I.size,I.io,?_⟩;exact I.fr.move (W:= []) (N':=N) (F':=F') (Moves.refl w) (by simp) (fun k hk=>hk) (fun k hk=> .inl hk) (fun i k hk=> .inl (hF i k hk))
    ·cases h
   ·cases h
  ·cases h
 ·exact ⟨_,h,N,hd,F,I⟩
 ·cases h
theorem zq0 {α β:Type} [DecidableEq β] (f:α->β): ∀(l:List α) (i:Nat) (h:i<l.length),(l.map f).Nodup->l.filter (fun x=> !decide (f x=f l[i]))=l.eraseIdx i
 | a::l,0,_,hn=>by
  simp only [qK,List.nodup_cons] at hn;simp only [List.getElem_cons_zero,List.eraseIdx_cons_zero,List.filter_cons,decide_true,qm,qg,qe];refine List.filter_eq_self.2 fun x hx=>?_
  simp only [Bool.not_eq_true',decide_eq_false_iff_not]
  exact fun e=>hn.1 (by rw [<-e];exact qQ.2 ⟨x,hx,rfl⟩)
 | a::l,i+1,h,hn=>by
  simp only [qK,List.nodup_cons] at hn;simp only [qD] at h;have h':i<l.length:=by omega
  simp only [List.getElem_cons_succ,List.eraseIdx_cons_succ,List.filter_cons];have hne: ¬f a=f l[i]:=fun e=>hn.1 (by rw [e];exact qQ.2 ⟨l[i],qi h',rfl⟩)
  simp only [hne,decide_false,qO,qf];rw [zq0 f l i h' hn.2]
section
variable {E : Env} {O : Oracle E} {X : Ctx}
theorem zKN {o:Oper} {t id:Nat} {v:Nat} {τ:Ty} {x:Option (Int×τ.den)×List (Int×τ.den)} {st:St} (ho:o.op= .next (.tmp t) false) (ht:st.t t= .one (.mp id v)) (hs:st.o id=(v,.itero τ x)) (hdst:dstOK X o.dst)
  {a:Act} {w:World} (I:Inv X st a w) {K:Act->World->Prop} {Q:Exit->Act->World->Prop}
  (h0:x.2= []-> ∀a' w',Inv X (st.app o.dst {v:= .tup [(false,[.imm .bool false])],s:=st.o}) a' w'->K a' w')
  (h1: ∀p∈x.2,∀a' w',Inv X (st.app o.dst {v:= .tup [(false,[.imm .bool true]),(false,[.imm (.int .i64) p.1]),(false,[.imm τ p.2])],s:=st.o.set id (v,.itero τ (some p,leave x.2 p.1)),w:= [id]}) a' w'->K a' w'):
  o.wp E.P a w K Q:=by
 obtain ⟨N,hd,F,I⟩:=I;have hx:=I.t t;rw [ht] at hx;have hob:=I.s.obj id;rw [hs] at hob;have e0:a.tmps.getD t undef=hd id:=hx.2.2 (by rw [hs]) (by rw [hs];rfl);obtain ⟨g,r',es,clock,since,seen,c0,ys,e1,e2,e3,e4,e5,e6,e7,e8,e9,e10,e11⟩:=hob;have e1':hd id= .pointer (some ⟨r',0,none⟩):=by simpa using e1
 rw [e1'] at e0;have e0':a.eval (.tmp t)= .pointer (some ⟨r',0,none⟩):=e0;have hr:w.heap[r']?=some (.mapIter (some g) since seen c0):=e3;have hg:w.heap[g]?=some (.map es clock):=e5;rcases run_next_at (P:=E.P) w o.type r' g since c0 seen es clock hr hg e6.1 e6.2.1 with ⟨hz,hrun⟩ | ⟨e,he,w1,hw1,hrun⟩
 ·have hys:ys= []:=wd.1 (by rw [<-e7];simpa using hz)
  have hx2:x.2= []:=by
   have:=e10.length_eq;rw [hys] at this;exact wd.1 this.symm
  refine zxz (u:= .tuple #[.bool false]) (w':=w) (by simp [execOp,ho,e0',hrun]) (h0 hx2 _ _ ?_);exact I.val hdst ⟨[.bool false],rfl,⟨rfl,rfl⟩,trivial⟩
 ·obtain ⟨i,hi,hie⟩:=List.getElem_of_mem he;have hiy:i<ys.length:=by omega
  obtain ⟨hk,hv⟩:=e8 i hiy hi;rw [hie] at hk hv;have hp:ys[i]∈x.2:=e10.mem_iff.1 (qi hiy);have hl1:=mem_left he;have hrg:r'≠g:=fun e=>by rw [e,hg] at hr;cases hr
  have hr1:w1.heap[r']?=some (.mapIter (some g) since seen c0):=by rcases hw1 with rfl | rfl<;>exact hr
  let ob:=Go.Obj.mapIter (some g) since (seen.push e.born) clock
  let w2:=Go.ChangeMaps.setBlock w1 r' ob
  have hw2:memOf w2 r'=some ob:=by
   simp only [memOf,w2,Go.ChangeMaps.setBlock];have:r'<w1.heap.size:=(Array.getElem?_eq_some_iff.1 hr1).1;simp [this]
  have hother: ∀k,k≠r'->memOf w2 k=memOf w k:=fun k hk=>by
   have:memOf w1 k=memOf w k:=by rcases hw1 with rfl | rfl<;>rfl
   rw [<-this];simp only [memOf,w2,Go.ChangeMaps.setBlock];simp [Ne.symm hk]
  have hsz:w2.heap.size=w.heap.size:=by
   have:w1.heap.size=w.heap.size:=by rcases hw1 with rfl | rfl<;>rfl
   rw [<-this];simp [w2,Go.ChangeMaps.setBlock]
  have hmv:Moves w w2 [r']:=by
   refine ⟨?_,?_,?_,by rw [hsz];exact ql _,fun k _ hk=>hother k (by simpa using hk)⟩<;>rcases hw1 with rfl | rfl<;>rfl
  have hne: ∀b,N b->b≠r':=fun b hb e=>by subst e;exact I.s.sep id b (by rw [e2];simp) hb
  have hN: ∀b,N b->N b∧memOf w2 b=memOf w b:=fun b hb=>⟨hb,hother b (hne b hb)⟩
  have hgo:Goes st.o (st.o.set id ((st.o id).1,.itero τ (some ys[i],leave x.2 (ys[i]).1))) hd hd:=Goes.set_like id _ (by simp [Obj.isV]) (fun _=>by rw [hs];rfl)
  have hnl:((leftOf es seen).toList.map (·.born)).Nodup:=by
   refine e6.2.2.1.sublist ?_;unfold leftOf;rw [Array.toList_filter];exact List.filter_sublist.map _
  have hleft:(leftOf es (seen.push e.born)).toList=(leftOf es seen).toList.eraseIdx i:=by
   rw [<-zq0 (·.born) _ i hi hnl,hie];unfold leftOf;rw [Array.toList_filter,Array.toList_filter,List.filter_filter];refine List.filter_congr fun y _=>?_
   rw [contains_push,Bool.not_or,Bool.and_comm];congr 1
  have hyl:ys.filter (fun q=> !decide (q.1=(ys[i]).1))=ys.eraseIdx i:=zq0 Prod.fst ys i hiy e9
  have hR:RepT (memOf w2) N (.iter τ) (some ys[i],leave x.2 (ys[i]).1) [hd id] [r']:=by
   refine ⟨g,r',es,clock,since,seen.push e.born,clock,ys.eraseIdx i,e1,rfl,hw2,e4,by rw [hother g (Ne.symm hrg)];exact hg,⟨e6.1,e6.2.2.2,e6.2.2.1,e6.2.2.2⟩,?_,?_,?_,?_,?_⟩
   ·rw [hleft,List.length_eraseIdx,List.length_eraseIdx,e7]
   ·intro j hj hj';simp only [hleft];have hj2:j<(ys.eraseIdx i).length:=hj;have hj3:j<((leftOf es seen).toList.eraseIdx i).length:=by rw [<-hleft];exact hj'
    show ((leftOf es seen).toList.eraseIdx i)[j].key=_∧RepT (memOf w2) N τ _ [((leftOf es seen).toList.eraseIdx i)[j].val] [];simp only [List.getElem_eraseIdx];split
    ·rename_i hji;have:=e8 j (by omega) (by omega);exact ⟨this.1,RepT.mono hN (by simp) this.2⟩
    ·rename_i hji;rw [List.length_eraseIdx_of_lt hiy] at hj2;have:=e8 (j+1) (by omega) (by omega);exact ⟨this.1,RepT.mono hN (by simp) this.2⟩
   ·rw [<-hyl];exact e9.sublist (List.filter_sublist.map _)
   ·rw [<-hyl];exact e10.filter _
   ·intro p hp;obtain rfl:=qh hp;exact ⟨e,seen,hl1.1,rfl,rfl,hk,RepT.mono hN (by simp) hv⟩
  have hinv:=I.s.upd (m':=memOf w2) (N':=N) (hd':=hd) (size':=w2.heap.size) id ((st.o id).1,.itero τ (some ys[i],leave x.2 (ys[i]).1)) [r'] (by rw [hsz];exact ql _) hN (fun k hk=>⟨by rw [hsz];exact I.s.ltN k hk,fun i _ hi=>I.s.sep i k hi hk,by simpa using hne k hk⟩)
   (fun j hj k hk=>hother k (fun e=>hj (I.s.once j id k hk (by rw [e2,e];simp)))) (by simp) (fun k hk=>by
    simp at hk;subst hk;exact ⟨by rw [hsz];exact I.s.ltF id k (by rw [e2];simp),fun j hj h=>hj (I.s.once j id k h (by rw [e2];simp))⟩) hgo (fun _ _=>rfl) hR
  have hF:(fun i=>if i=id then [r'] else F i)=F:=by
   funext j;by_cases e:j=id
   ·simp [e,e2]
   ·simp [e]
  rw [hF,hs] at hinv;rw [hs] at hgo;refine zxz (u:= .tuple #[.bool true,e.key,e.val]) (w':=w2) (by simp [execOp,ho,e0',hrun,w2,ob]) (h1 _ hp _ _ ⟨N,hd,F,?_⟩);refine I.put hdst (s':=st.o.set id (v,.itero τ (some ys[i],leave x.2 (ys[i]).1))) ?_ hinv hN hgo (I.fr.move hmv (fun k hk=>?_) (fun _ h=>h) (fun _ h=> .inl h) (fun j b hb=> .inl ⟨j,hb⟩)) ?_
  ·funext j;by_cases e:j=id
   ·subst e;simp [St.app,Sto.set_same]
   ·simp [St.app,e,Sto.set_ne _ _ e]
  ·simp at hk;subst hk;exact ⟨id,by rw [e2];simp⟩
  ·refine ⟨[.bool true,e.key,e.val],rfl,⟨rfl,rfl⟩,?_,?_,trivial⟩
   ·show RepT _ _ _ _ _ _;exact ⟨by rw [hk],rfl⟩
   ·show RepT _ _ _ _ _ _;exact RepT.mono hN (by simp) hv
theorem zBm {α R:Type} {xs:List α} {a:Option R} {f:α->Option R} {r:R} (h:pickL xs a f=some r):(xs= []->a=some r)∧ ∀p∈xs,f p=some r:=by
 cases xs with
 | nil=>exact ⟨fun _=>h,by simp⟩
 | cons p l=>
  simp only [pickL] at h;split at h
  ·rename_i hc;exact ⟨by simp,fun q hq=>(hc q hq).trans h⟩
  ·cases h
theorem zLE (hC:CSoundX X E O) {R:Type} {r:R} {id:Nat} {all:Array Oper} {draw:Bool} {st:St} {K:St->Option R} (h:evPick E O all X.io X.nt draw all.toList st K=some r) (Q:Exit->Act->World->Prop) (a:Act) (w:World) (I:Inv X st a w)
  (hQ: ∀st',K st'=some r-> ∀a w,Inv X st' a w->Q .normal a w):(Code.region id all draw).wp E.P Q a w:=by
 unfold evPick at h;split at h
 ·cases h
 ·rename_i o rest hall;split at h
  ·rename_i t ho hgd;split at h
   ·rename_i hd
    have hdst:dstOK X o.dst:=fun t ht=>by
     rw [ht] at hd;simpa [dstB] using hd
    split at h
    ·rename_i id' ver ht;split at h
     ·rename_i v τ x hs;split at h
      ·rename_i hv;subst hv;obtain ⟨h0,h1⟩:=zBm h
       have fin: ∀st',evOps E O all X.io X.nt rest st' [] (fun _ st'=>K st')=some r-> ∀a w,Inv X st' a w->Go.wpOps E.P all Q (List.range' 1 rest.length) a w:=by
        intro st' h a w I;obtain ⟨es,st2,hrun,_,hk⟩:=zvA hC _ _ _ _ h;refine hrun.wpOps 1 (fun i hi=>?_) a w I (fun a w I'=>hQ st2 hk a w I');have:all[1+i]?=all.toList[1+i]?:=by simp
        rw [this,hall,Nat.add_comm 1 i,List.getElem?_cons_succ]
       refine wp_region ?_;have hsz:all.size=rest.length+1:=by rw [<-Array.length_toList,hall];rfl
       rw [List.range_eq_range',hsz,List.range'_succ]
       have h0':all[0]?=some o:=by
        have:all[0]?=all.toList[0]?:=by simp
        rw [this,hall];rfl
       simp only [Go.wpOps,h0'];have hw:Region.wanted o (yielded all a.tmps)=true:=by simp [Region.wanted,hgd]
       rw [qb hw];exact .inl (zKN ho ht hs hdst I (fun he a' w' I'=>fin _ (h0 he) a' w' I') (fun p hp a' w' I'=>fin _ (h1 p hp) a' w' I'))
      ·cases h
     ·cases h
    ·cases h
   ·cases h
  ·cases h
theorem zKu (hC:CSound E O.C) (hH:HidSound E O.H) {n:Nat} (hL:LSound E n O.L) (hm:E.P.follows .mixedOrders=true) {f nt:Nat} {res:List ResultVar} {fn:Func} {body:Code} {us:List Value} (hfn:E.P.funcs[rl f]?=some fn) (hbody:fn.body=some body) (hntm:nt=fn.ntmps) (hfit:Fit E f nt res fn us X):
  ∀(c:Code) (p:Nat) (R:Type) (K:Ex->St->Option R) (KR:E.Ret f->Option R) (st:St) (r:R),ev E O ⟨f,nt,res⟩ c p R K KR st=some r-> ∀(Q:Exit->Act->World->Prop) a w,Inv X st a w->
   (∀e st',K e st'=some r-> ∀a w,Inv X st' a w->Q (exOf e) a w)->(∀y,KR y=some r-> ∀a w,RetAt E f fn us X y a w->Q .ret a w)->c.wp E.P Q a w:=by
 intro c
 induction c with
 | skip=>intro p R K KR st r h Q a w I hK hR;exact wp_skip (hK .normal st h a w I)
 | region id ops draw=>
  intro p R K KR st r h Q a w I hK hR;simp only [ev] at h;rw [<-hfit.io,hfit.nt] at h;split at h
  ·exact zLE ⟨hC,hfit.tabs,hH⟩ h Q a w I (fun st' h1 a w I'=>hK .normal st' h1 a w I')
  ·obtain ⟨st',h1,h2⟩:=zIp (X:=X) (id:=id) ⟨hC,hfit.tabs,hH⟩ hm h
   exact h2 Q a w I (fun a w I'=>hK .normal st' h1 a w I')
 | seq x y ihx ihy=>
  intro p R K KR st r h Q a w I hK hR;simp only [ev] at h;split at h
  ·rename_i ts τ exits hh;split at h
   ·obtain ⟨v,hv,h⟩:=qS.1 h
    cases v with
    | inl x=>
     refine wp_seq (ihx _ _ _ _ st _ hv _ a w I (fun e st' hk a w I'=>?_) (fun y hy a w hr=>?_))
     ·cases e with
      | normal=>
       obtain ⟨x',hx',e⟩:=Option.map_eq_some_iff.1 hk;injection e with e;subst e
       exact ihy _ _ _ _ _ _ h Q a w (zw5 hx' I') hK hR
      | exit i=>
       obtain ⟨x',_,e⟩:=Option.map_eq_some_iff.1 hk;cases e
     ·obtain ⟨x',_,e⟩:=Option.map_eq_some_iff.1 hy
      cases e
    | inr r'=>
     obtain rfl:=qh h;refine wp_seq (ihx _ _ _ _ st _ hv _ a w I (fun e st' hk a w I'=>?_) (fun y hy a w hr=>?_))
     ·cases e with
      | normal=>
       obtain ⟨x',_,e⟩:=Option.map_eq_some_iff.1 hk
       cases e
      | exit i=>
       obtain ⟨x',hx',e⟩:=Option.map_eq_some_iff.1 hk;injection e with e;subst e
       exact hK (.exit i) st' hx' a w I'
     ·obtain ⟨x',hx',e⟩:=Option.map_eq_some_iff.1 hy;injection e with e;subst e
      exact hR y hx' a w hr
   ·obtain ⟨v,hv,h⟩:=qS.1 h;refine wp_seq (ihx _ _ _ _ st _ hv _ a w I (fun e st' hk a w I'=>?_) (fun y hy a w hr=>?_))
    ·cases e with
     | normal=>exact ihy _ _ _ _ _ _ h Q a w (zw5 hk I') hK hR
     | exit i=>cases hk
    ·cases hy
  ·rename_i t0 _;refine wp_seq (ihx _ _ _ _ st _ h _ a w I (fun e st' hk a w I'=>?_) (fun y hy a w hr=>hR y hy a w hr))
   cases e with
   | normal=>
    obtain ⟨st2,hk2,I2⟩:=zIX hk I'
    exact ihy _ _ _ _ _ _ hk2 Q a w I2 hK hR
   | exit i=>exact hK (.exit i) st' hk a w I'
  ·refine wp_seq (ihx _ _ _ _ st _ h _ a w I (fun e st' hk a w I'=>?_) (fun y hy a w hr=>hR y hy a w hr))
   cases e with
   | normal=>exact ihy _ _ _ _ _ _ hk Q a w I' hK hR
   | exit i=>exact hK (.exit i) st' hk a w I'
 | cond c x y ihx ihy=>
  intro p R K KR st r h Q a w I hK hR;simp only [ev] at h;split at h
  ·rename_i t ht
   have hc:a.eval c= .bool t:=by
    obtain ⟨N,hd,F,I⟩:=I;have:=I.eval c;rw [ht] at this;exact zsF (m:=memOf w) (N:=N) (s:=st.o) (hd:=hd) this
   refine wp_cond hc ?_;split at h
   ·rename_i hb;have hb':t=true:=hb;rw [qb hb'];exact ihx _ _ _ _ _ _ h Q a w I hK hR
   ·rename_i hb;have hb': ¬(t=true):=hb;rw [qc hb'];exact ihy _ _ _ _ _ _ h Q a w I hK hR
  ·cases h
 | block id x ih=>
  intro p R K KR st r h Q a w I hK hR;simp only [ev] at h;refine wp_block (ih _ _ _ _ st _ h _ a w I (fun e st' hk a w I'=>?_) (fun y hy a w hr=>hR y hy a w hr))
  cases e with
  | normal=>exact hK .normal st' hk a w I'
  | exit i=>
   show Exit.inBlock id Q (.exit i) a w;simp only [Exit.inBlock];simp only at hk;split at hk
   ·rename_i hi;rw [qb hi];exact hK .normal st' hk a w I'
   ·rename_i hi
    rw [qc hi];exact hK (.exit i) st' hk a w I'
 | loop x ih=>
  intro p R K KR st r h Q a w I hK hR;simp only [ev] at h;split at h
  ·rename_i lh _;split at h
   ·cases h
   ·rename_i x' hx';obtain ⟨v,hv,h⟩:=qS.1 h;refine wp_loop_rounds n (hL f lh x x' v hv fn body res us X hfn hbody (hntm▸hfit) Q a w (zw5 hx' I) (fun y hy a w I'=>?_) (fun y hy a w hr=>?_))
    ·subst hy;exact hK (.exit lh.ex) _ h a w I'
    ·subst hy;exact hR y h a w hr
  ·cases h
 | exit id=>intro p R K KR st r h Q a w I hK hR;exact wp_exit (hK (.exit id) st h a w I)
 | ret=>
  intro p R K KR st r h Q a w I hK hR;simp only [ev] at h;obtain ⟨y,hy,h⟩:=qS.1 h
  exact wp_ret (hR y h a w (zD1 hy hfit.res hfit.io hfit.ok hfit.len hfit.av I))
 | _=>intro p R K KR st r h;simp only [ev] at h;cases h
def ExtSound (E:Env):Prop:=
 CloneSound E∧ ∀(f:Nat) (g:(E.ps f).den->Option (E.Ret f)),E.ext f=some g-> ∀(x:(E.ps f).den) (yz:E.Ret f),g x=some yz-> ∀(w:World) (N:Nat->Prop) (us:List Value) (G:List Nat),RepAs (memOf w) N (E.ps f) x us G->G.Nodup->(∀k∈G,k<w.heap.size∧ ¬N k)->(∀k,N k->k<w.heap.size)->E.tabs w N->
  Calls E.P (rl f) us.toArray w (Post fun v w'=> ∃N' rs G1 G2,Done E f yz.1 yz.2 us G N w v w' N' rs G1 G2)
theorem zC2 {f:Nat} {F:Fn E} {c:Code} (h:fnOf E f=some (F,c)): ∃fn res,E.P.funcs[rl f]?=some fn∧fn.body=some c∧fn.results.toList=res∧F=⟨f,fn.ntmps,res⟩:=by
 unfold fnOf at h;split at h
 ·rename_i fn hfn;split at h
  ·rename_i c' hb;simp only [qI,qU] at h;obtain ⟨rfl,rfl⟩:=h;exact ⟨fn,_,hfn,hb,rfl,rfl⟩
  ·cases h
 ·cases h
theorem zLa (hX:ExtSound E) (hC:CSound E O.C) (hH:HidSound E O.H) {n:Nat} (hL:LSound E n O.L) (hm:E.P.follows .mixedOrders=true):CSound E (evFn E O):=by
 refine ⟨hC.1,fun f x yz h w N us G hus hnd hG hN hT=>?_⟩;unfold evFn at h;split at h
 ·rename_i g hg;exact hX.2 f g hg x yz h w N us G hus hnd hG hN hT
 ·split at h
  ·rename_i F c hF;obtain ⟨fn,res,hfn,hb,hr,rfl⟩:=zC2 hF;split at h
   ·rename_i hcond;obtain ⟨_,hio,hnt⟩:=hcond;have hnt':nFs (E.ps f)<=fn.ntmps:=hnt;have hlen:=hus.length;have hiol:=zEp hio
    let X:Ctx:= {w0:=w,N0:=N,F0:=G,nt:=fn.ntmps,io:=ioTmps (E.io f) 0,av:=fun j=>us.getD j undef}
    have hfit:Fit E f fn.ntmps res fn us X:=⟨hr,rfl,rfl,hio,by omega,fun _=>rfl,fun w' N' F' hfr p hp=>⟨hfr.up _ (hT p hp).1,by rw [hfr.block _ (hN _ (hT p hp).1) (fun hg=>(hG _ hg).2 (hT p hp).1)];exact (hT p hp).2⟩⟩
    have I:=(zKe (f:=f) hus hnd hG hN (nt:=fn.ntmps) (by omega)).resolve_right (fun hn=>hn fun j hj=>by
     have:=(zyB (E.io f) 0 j hj).2;omega)
    refine calls_of_wp hfn hb (zKu (X:=X) hC hH hL hm hfn hb rfl hfit c 1 (E.Ret f) _ _ _ yz h _ _ w I (fun e st' hk a w' I'=>?_) (fun y hy a w' hret=>?_))
    ·cases e with
     | normal=>
      obtain ⟨y,hy,hk⟩:=qS.1 hk;have hk':y=yz:=qh hk;subst hk'
      exact zD1 hy hfit.res hfit.io hfit.ok hfit.len hfit.av I'
     | exit i=>cases hk
    ·have hy':y=yz:=qh hy;subst hy';exact hret
   ·cases h
  ·cases h
theorem zHq (hC:CSound E O.C) (hH:HidSound E O.H) {n:Nat} (hL:LSound E n O.L) (hm:E.P.follows .mixedOrders=true):LSound E (n+1) (evLoop E O):=by
 intro f h c x v hv fn body res us X hfn hb hfit Q a w I hQ1 hQ2;unfold evLoop at hv;split at hv
 ·rename_i F c' hF;obtain ⟨fn',res',hfn',hb',hr',rfl⟩:=zC2 hF;rw [hfn] at hfn';obtain rfl:=qh hfn';have hres:res'=res:=by have:=hfit.res;rw [hr'] at this;exact this
  subst hres;split at hv
  ·rename_i he;rw [rounds_succ];refine zKu (X:=X) hC hH hL hm hfn hb rfl hfit c h.key _ _ _ _ v hv _ a w I (fun e st' hk a w' I'=>?_) (fun y hy a w' hret=>?_)
   ·cases e with
    | normal=>
     obtain ⟨x',hx',hk⟩:=qS.1 hk
     exact hL f h c x' v hk fn body res' us X hfn hb hfit Q a w' (zw5 hx' I') hQ1 hQ2
    | exit i=>
     simp only at hk;split at hk
     ·rename_i hi;obtain ⟨y,hy,hk⟩:=qS.1 hk;have hk':=qh hk;subst hi;exact hQ1 y hk'.symm a w' (zw5 hy I')
     ·cases hk
   ·have hy':=qh hy;exact hQ2 y hy'.symm a w' hret
  ·cases hv
 ·cases hv
theorem On_H {h:HOr E}: ∀n,(On E n h).H=h
 | 0=>rfl
 | n+1=>On_H n
theorem zFf (hX:ExtSound E) (hm:E.P.follows .mixedOrders=true) {h:HOr E} (hH:HidSound E h): ∀n,CSound E (On E n h).C∧LSound E n (On E n h).L
 | 0=>⟨⟨hX.1,fun _ _ _ h=>(by cases h)⟩,fun _ _ _ _ _ h=>(by cases h)⟩
 | n+1=>by
  obtain ⟨h1,h2⟩:=zFf hX hm hH n;have hH':HidSound E (On E n h).H:=by rw [On_H];exact hH
  exact ⟨zLa hX h1 hH' h2 hm,zHq h1 hH' h2 hm⟩
theorem zMq:HidSound E (noH E):=fun _ _ _ h=>(by cases h)
theorem zKH (hX:ExtSound E) (hm:E.P.follows .mixedOrders=true): ∀n,CSound E (On E n).C∧LSound E n (On E n).L:=zFf hX hm zMq
end
open Go Go.RowKit
def wfT:(τ:Ty)->τ.den->Prop
 | .int k,n=>(Lit.int k n).wf=true
 | .str,x=>List.length x<=maxLen
 | .sl e,xs=>List.length xs<=maxLen∧ ∀x∈(xs:List e.den),wfT e x
 | .agg fs,x=>wfT fs x
 | .cons a r,x=>wfT a x.1∧wfT r x.2
 | _,_=>True
def dtFs (P:Program) (rec:TypeId->Option Ty):List Field->Nat->Option Ty
 | [],_=>some .nil
 | f::r,off=>match rec f.type,dtFs P rec r (off+P.cellsOf f.type) with
  | some a,some b=>if f.offset=off∧P.cellsOf f.type=a.sz then some (.cons a b) else none
  | _,_=>none
def dtP (P:Program):Nat->TypeId->Option Ty
 | 0,_=>none
 | n+1,t=>match P.underlying t with
  | some .bool=>some .bool
  | some (.int k)=>some (.int k)
  | some .string=>some .str
  | some (.slice e)=>match dtP P n e with
   | some τ=>if P.cellsOf e=τ.sz∧τ.sz≠0 then some (.sl τ) else none
   | none=>none
  | some (.struct fs)=>match dtFs P (dtP P n) fs.toList 0 with
   | some τs=>if P.cellsOf t=τs.sz then some (.agg τs) else none
   | none=>none
  | _=>none
section
variable {H : Type} {enc : TypeId × Value -> H} {P : Program} {w : World} {spare : Nat -> Bool} {held : Bool}
theorem zIt {base:Nat} {a:Addr} {n:Nat} {cs:List Value} (h:w.cells? base a n=some cs):cs.length=n∧ ∀(i:Nat) (v:Value),cs[i]?=some v->w.cell? (a.add i)=some v:=by
 unfold World.cells? at h;split at h
 ·have hl:=mapM_some_length h;have hl':cs.length=n:=by simpa using hl
  refine ⟨hl',fun i v hv=>?_⟩
  have hi:i<n:=by
   have:=(qW.1 hv).1;omega
  have:=mapM_some_get h i i (by simp [hi]);rw [this,hv]
 ·cases h
theorem zDd {a:Addr} {v:Value} (h:w.cell? a=some v):a.spot=none∧ ∃c T fr,w.heap[a.block]?=some (.cells c T fr)∧c[a.off]?=some v:=by
 unfold World.cell? at h;split at h
 ·rename_i c T fr hc;split at h
  ·cases h
  ·rename_i hs;exact ⟨by simpa using hs,c,T,fr,hc,h⟩
 ·cases h
theorem zIz (a:Addr) (n:Nat):(a.add n).block=a.block:=by unfold Addr.add;split<;>rfl
theorem zKT (a:Addr) (n:Nat):(a.add n).off=a.off+n:=by
 unfold Addr.add;split
 ·rename_i h;simp [h]
 ·rfl
theorem zLB (a:Addr) (m n:Nat):(a.add m).add n=a.add (m+n):=by
 unfold Addr.add;by_cases hm:m=0
 ·subst hm;simp
 ·by_cases hn:n=0
  ·subst hn;simp
  ·rw [qc hm,qc hn,qc (by omega)];simp [Nat.add_assoc]
theorem zJG: ∀(n:Nat),(∀(t:TypeId) (τ:Ty),dtP P n t=some τ-> ∀(fuel:Nat) (cs:List Value) (y:DataW H×List MemPlace),DataW.trod enc P w 0 spare held fuel t cs=some y-> ∃x:τ.den,RepT (memOf w) (fun k=>k<w.heap.size) τ x cs []∧wfT τ x)∧
  (∀(fs:List Field) (off:Nat) (τs:Ty),dtFs P (dtP P n) fs off=some τs-> ∀(cs:List Value),cs.length=off+τs.sz->(∀f∈fs,∃fuel y,DataW.trod enc P w 0 spare held fuel f.type ((cs.drop f.offset).take (P.cellsOf f.type))=some y)->
   ∃x:τs.den,RepT (memOf w) (fun k=>k<w.heap.size) τs x (cs.drop off) []∧wfT τs x):=by
 intro n
 induction n with
 | zero=>
  refine ⟨fun t τ h=>by simp [dtP] at h,fun fs off τs h cs hl hf=>?_⟩
  cases fs with
  | nil=>
   simp [dtFs] at h;subst h
   exact ⟨(),⟨List.drop_eq_nil_of_le (by rw [hl];simp [Ty.sz]),rfl⟩,trivial⟩
  | cons f r=>simp [dtFs,dtP] at h
 | succ n ih=>
  have hA: ∀(t:TypeId) (τ:Ty),dtP P (n+1) t=some τ-> ∀(fuel:Nat) (cs:List Value) (y:DataW H×List MemPlace),DataW.trod enc P w 0 spare held fuel t cs=some y-> ∃x:τ.den,RepT (memOf w) (fun k=>k<w.heap.size) τ x cs []∧wfT τ x:=by
   intro t τ h fuel cs y hy;unfold dtP at h;split at h
   ·rename_i hu;obtain rfl:=qh h;obtain ⟨b,rfl,_⟩:=DataW.trod_bool hu hy;exact ⟨b,⟨rfl,rfl⟩,trivial⟩
   ·rename_i k hu;obtain rfl:=qh h;obtain ⟨m,rfl,_,hw⟩:=DataW.trod_int hu hy;exact ⟨m,⟨rfl,rfl⟩,hw⟩
   ·rename_i hu;obtain rfl:=qh h;obtain ⟨s,rfl,_,hs⟩:=DataW.trod_string hu hy;exact ⟨s.data.toList,⟨rfl,rfl⟩,by simpa [wfT] using hs⟩
   ·rename_i e hu;split at h
    ·rename_i τ' hτ;split at h
     ·rename_i hc;obtain rfl:=qh h;rcases DataW.trod_slice hu hy with ⟨rfl,_⟩ | ⟨a,len,cap,elems,rest,m,_,rfl,_,hb,hlc,hcm,hel,hget,_,_⟩
      ·exact ⟨[],⟨rfl,none,0,[],rfl,ql _,rfl,fun i h=>absurd h (by simp),fun h=>absurd rfl h⟩,by simp [wfT]⟩
      ·have hone: ∀i,i<len-> ∃(cs':List Value) (x:τ'.den),w.cells? 0 (a.add (i*P.cellsOf e)) (P.cellsOf e)=some cs'∧RepT (memOf w) (fun k=>k<w.heap.size) τ' x cs' []∧wfT τ' x:=by
        intro i hi;have h1:=hget i hi;rw [qu (by omega)] at h1;obtain ⟨cs',hcs,hy'⟩:=qS.1 h1;obtain ⟨x,hx1,hx2⟩:=ih.1 e τ' hτ m cs' _ hy';exact ⟨cs',x,hcs,hx1,hx2⟩
       let pc:Nat->List Value:=fun i=>if h:i<len then Classical.choose (hone i h) else []
       have hpc: ∀i (h:i<len),∃x:τ'.den,w.cells? 0 (a.add (i*P.cellsOf e)) (P.cellsOf e)=some (pc i)∧RepT (memOf w) (fun k=>k<w.heap.size) τ' x (pc i) []∧wfT τ' x:=by
        intro i h;have:=Classical.choose_spec (hone i h);simp only [pc,dif_pos h];exact this
       let px:(i:Nat)->(h:i<len)->τ'.den:=fun i h=>Classical.choose (hpc i h)
       have hpx: ∀i (h:i<len),w.cells? 0 (a.add (i*P.cellsOf e)) (P.cellsOf e)=some (pc i)∧RepT (memOf w) (fun k=>k<w.heap.size) τ' (px i h) (pc i) []∧wfT τ' (px i h):=fun i h=>Classical.choose_spec (hpc i h)
       have hxl:(List.ofFn fun i:Fin len=>px i.1 i.2).length=len:=by simp
       have hlen: ∀x∈(List.ofFn fun i:Fin len=>pc i.1),x.length=τ'.sz:=by
        intro x hx;obtain ⟨i,rfl⟩:=List.mem_ofFn.1 hx;exact (hpx i.1 i.2).2.1.len
       refine ⟨List.ofFn fun i:Fin len=>px i.1 i.2,⟨rfl,some a,cap,List.ofFn fun i:Fin len=>pc i.1,by rw [hxl],by rw [hxl];exact hlc,by simp,fun i h h'=>?_,fun hne=>?_⟩,?_⟩
       ·rw [hxl] at h;simp only [List.getElem_ofFn];exact (hpx i h).2.1
       ·have h0:0<len:=by
         rcases Nat.eq_zero_or_pos len with h0 | h0
         ·exact absurd (List.eq_nil_of_length_eq_zero (hxl.trans h0)) hne
         ·exact h0
        have hcell: ∀(j:Nat) (v:Value),(List.ofFn fun i:Fin len=>pc i.1).flatten[j]?=some v->w.cell? (a.add j)=some v:=by
         intro j v hv;have hfl:=zP _ hlen;have hj:=(qW.1 hv).1;rw [hfl,List.length_ofFn] at hj;have hsz:0<τ'.sz:=Nat.pos_of_ne_zero hc.2;have hd:j / τ'.sz<len:=by rw [Nat.div_lt_iff_lt_mul hsz];exact hj
         have hm:j % τ'.sz<τ'.sz:=Nat.mod_lt _ hsz;have hjd:j=(j / τ'.sz)*τ'.sz+j % τ'.sz:=by have:=Nat.div_add_mod j τ'.sz;rw [Nat.mul_comm] at this;omega
         have hsub:((List.ofFn fun i:Fin len=>pc i.1).flatten.drop ((j / τ'.sz)*τ'.sz))[j % τ'.sz]?=some v:=by
          rw [List.getElem?_drop,<-hjd];exact hv
         rw [zev _ _ hlen,qj (by simpa using hd),List.flatten_cons,List.getElem?_append_left (by
          rw [hlen _ (qi _)];exact hm)] at hsub
         simp only [List.getElem_ofFn] at hsub;have:=(zIt (hpx _ hd).1).2 _ _ hsub;rw [hc.1] at this;rw [zLB,<-hjd] at this;exact this
        have hfirst: ∃v,(List.ofFn fun i:Fin len=>pc i.1).flatten[0]?=some v:=by
         have hfl:=zP _ hlen;rw [List.length_ofFn] at hfl;have:0<(List.ofFn fun i:Fin len=>pc i.1).flatten.length:=by rw [hfl];exact Nat.mul_pos h0 (Nat.pos_of_ne_zero hc.2)
         exact ⟨_,qu this⟩
        obtain ⟨v0,hv0⟩:=hfirst;have h00:=hcell 0 v0 hv0;have ha0:a.add 0=a:=by simp [Addr.add]
        rw [ha0] at h00;obtain ⟨hspot,c,T,fr,hcb,_⟩:=zDd h00
        have ha:a=⟨a.block,a.off,none⟩:=by
         cases a;simp at hspot;simp [hspot]
        refine ⟨a.block,a.off,congrArg some ha,(Array.getElem?_eq_some_iff.1 hcb).1,c,T,fr,hcb,fun j v hv=>?_⟩;have h1:=hcell j v hv;obtain ⟨_,c',T',fr',hcb',hv'⟩:=zDd h1;rw [zIz,hcb] at hcb';injection hcb' with hcb'
        injection hcb' with hc1
        subst hc1;rw [zKT] at hv';exact hv'
       ·refine ⟨by rw [hxl];omega,fun x hx=>?_⟩;obtain ⟨i,rfl⟩:=List.mem_ofFn.1 hx;exact (hpx i.1 i.2).2.2
     ·cases h
    ·cases h
   ·rename_i fs hu;split at h
    ·rename_i τs hτ;split at h
     ·rename_i hc;obtain rfl:=qh h;obtain ⟨xs,m,_,_,hl,hxl,hg⟩:=DataW.trod_struct hu hy
      obtain ⟨x,h1,h2⟩:=ih.2 fs.toList 0 τs hτ cs (by rw [hl,hc];omega) (fun f hf=>by
       obtain ⟨i,hi⟩:=List.getElem?_of_mem hf;have h1:=hg i f (by simpa using hi)
       have hlt:i<xs.length:=by
        have:=(qW.1 hi).1;simp at this;omega
       rw [qu hlt] at h1;exact ⟨m,_,h1⟩)
      rw [qk] at h1;exact ⟨x,h1,h2⟩
     ·cases h
    ·cases h
   ·cases h
  refine ⟨hA,fun fs=>?_⟩
  induction fs with
  | nil=>
   intro off τs h cs hl hf;simp [dtFs] at h;subst h
   exact ⟨(),⟨List.drop_eq_nil_of_le (by rw [hl];simp [Ty.sz]),rfl⟩,trivial⟩
  | cons f r ihr=>
   intro off τs h cs hl hf;simp only [dtFs] at h;split at h
   ·rename_i a b ha hb;split at h
    ·rename_i hc;obtain rfl:=qh h;obtain ⟨hoff,hsz⟩:=hc;obtain ⟨fuel,y,hy⟩:=hf f (by simp);obtain ⟨x1,k1,k2⟩:=hA f.type a ha fuel _ y hy;have hl':cs.length=off+P.cellsOf f.type+b.sz:=by rw [hl,hsz];simp [Ty.sz];omega
     obtain ⟨x2,k3,k4⟩:=ihr (off+P.cellsOf f.type) b hb cs hl' (fun g hg=>hf g (qn _ hg));refine ⟨(x1,x2),⟨(cs.drop f.offset).take (P.cellsOf f.type),cs.drop (off+P.cellsOf f.type),[],[],?_,rfl,k1,k3⟩,k2,k4⟩;rw [hoff,<-List.drop_drop,wa]
    ·cases h
   ·cases h
end
theorem zI1 {E:Env} (hX:ExtSound E) (hm:E.P.follows .mixedOrders=true) {hh:HOr E} (hH:HidSound E hh) {f n:Nat} {x:(E.ps f).den} {yz:E.Ret f} (h:(On E n hh).C f x=some yz) {w:World} {us:List Value} (hr:RepAs (memOf w) (fun k=>k<w.heap.size) (E.ps f) x us []) (hT:E.tabs w (fun k=>k<w.heap.size)):
  Calls E.P (rl f) us.toArray w (fun e w'=>Below w.heap.size w w'∧ ∃N' rs G1,e= .returned (retOf rs)∧RepAs (memOf w') N' (E.rs f) yz.1 rs G1):=by
 refine Calls.mono ((zFf hX hm hH n).1.2 f x yz h w (fun k=>k<w.heap.size) us [] hr List.nodup_nil (by simp) (fun _ h=>h) hT) (fun e w' hp=>?_)
 cases e with
 | returned v=>
  obtain ⟨N',rs,G1,G2,D⟩:=hp
  exact ⟨⟨D.mv.os,D.mv.tape,D.mv.output,D.mv.size,fun k hk=>D.mv.block k hk (by simp)⟩,N',rs,G1,by rw [D.val],D.rep⟩
 | _=>exact hp.elim
def Gets (E:Env) (f:Nat) (x:(E.ps f).den) (yz:E.Ret f) (hh:HOr E:=noH E):Prop:= ∃N,∀n,N<=n->(On E n hh).C f x=some yz
def GetsL (E:Env) (f:Nat) (h:LoopH) (c:Code) (x:h.hτ.den) (v:h.oτ.den⊕E.Ret f) (hh:HOr E:=noH E):Prop:= ∃N,∀n,N<=n->(On E n hh).L f h c x=some v
theorem Gets.step {E:Env} {hh:HOr E} {f:Nat} {x:(E.ps f).den} {yz:E.Ret f} (h: ∃N,∀n,N<=n->(Φ E (On E n hh)).C f x=some yz):Gets E f x yz hh:=by
 obtain ⟨N,h⟩:=h;refine ⟨N+1,fun n hn=>?_⟩
 cases n with
 | zero=>omega
 | succ n=>exact h n (by omega)
theorem GetsL.step {E:Env} {h0:HOr E} {f:Nat} {h:LoopH} {c:Code} {x:h.hτ.den} {v:h.oτ.den⊕E.Ret f} (hh: ∃N,∀n,N<=n->(Φ E (On E n h0)).L f h c x=some v):GetsL E f h c x v h0:=by
 obtain ⟨N,hh⟩:=hh;refine ⟨N+1,fun n hn=>?_⟩
 cases n with
 | zero=>omega
 | succ n=>exact hh n (by omega)
noncomputable section
variable {E : Env} {R S α β : Type}
theorem Gets.uniq {hh:HOr E} {f:Nat} {x:(E.ps f).den} {y z:E.Ret f} (h:Gets E f x y hh) (k:Gets E f x z hh):y=z:=by
 obtain ⟨N,h⟩:=h;obtain ⟨M,k⟩:=k;have a:=h (max N M) (by omega);have b:=k (max N M) (by omega);rw [a] at b;exact qh b
theorem GetsL.uniq {hh:HOr E} {f:Nat} {h:LoopH} {c:Code} {x:h.hτ.den} {y z:h.oτ.den⊕E.Ret f} (p:GetsL E f h c x y hh) (k:GetsL E f h c x z hh):y=z:=by
 obtain ⟨N,p⟩:=p;obtain ⟨M,k⟩:=k;have a:=p (max N M) (by omega);have b:=k (max N M) (by omega);rw [a] at b;exact qh b
open Classical in
def LmH (E:Env) (hh:HOr E):Oracle E where
 C f x:=if h: ∃y,Gets E f x y hh then some h.choose else none
 L f h c x:=if p: ∃y,GetsL E f h c x y hh then some p.choose else none
 H:=hh
abbrev Lm (E:Env):Oracle E:=LmH E (noH E)
theorem Lm_C {hh:HOr E} {f:Nat} {x:(E.ps f).den} {y:E.Ret f}:(LmH E hh).C f x=some y↔Gets E f x y hh:=by
 constructor
 ·intro h;simp only [LmH] at h;split at h
  ·rename_i p;obtain rfl:=qh h;exact p.choose_spec
  ·cases h
 ·intro h;have p: ∃y,Gets E f x y hh:=⟨y,h⟩;simp only [LmH,dif_pos p];exact congrArg some (p.choose_spec.uniq h)
theorem Lm_L {hh:HOr E} {f:Nat} {h:LoopH} {c:Code} {x:h.hτ.den} {y:h.oτ.den⊕E.Ret f}:(LmH E hh).L f h c x=some y↔GetsL E f h c x y hh:=by
 constructor
 ·intro k;simp only [LmH] at k;split at k
  ·rename_i p;obtain rfl:=qh k;exact p.choose_spec
  ·cases k
 ·intro k;have p: ∃y,GetsL E f h c x y hh:=⟨y,k⟩;simp only [LmH,dif_pos p];exact congrArg some (p.choose_spec.uniq k)
structure Ap (lim:Oracle E) (sq:Nat->Oracle E):Prop where
 C: ∀(f:Nat) (x:(E.ps f).den) (y:E.Ret f),lim.C f x=some y-> ∃N,∀n,N<=n->(sq n).C f x=some y
 L: ∀(f:Nat) (h:LoopH) (c:Code) (x:h.hτ.den) (y:h.oτ.den⊕E.Ret f),lim.L f h c x=some y-> ∃N,∀n,N<=n->(sq n).L f h c x=some y
 H:(∀f x,lim.H f x=none)∨ ∀n,(sq n).H=lim.H
theorem Ap.lm (hh:HOr E):Ap (LmH E hh) (fun n=>On E n hh):=⟨fun _ _ _ h=>Lm_C.1 h,fun _ _ _ _ _ h=>Lm_L.1 h,.inr fun n=>On_H n⟩
def Ct (E:Env) (A:Oracle E->Option R):Prop:= ∀(lim:Oracle E) (sq:Nat->Oracle E),Ap lim sq-> ∀r,A lim=some r-> ∃N,∀n,N<=n->A (sq n)=some r
theorem Ct.const (a:Option R):Ct E (fun _=>a):=fun _ _ _ _ h=>⟨0,fun _ _=>h⟩
theorem Ct.ite {p:Prop} [Decidable p] {A B:Oracle E->Option R} (a:Ct E A) (b:Ct E B):Ct E (fun O=>if p then A O else B O):=by
 intro lim sq ap r h;by_cases hp:p
 ·simp only [qb hp] at h ⊢; exact a lim sq ap r h
 ·simp only [qc hp] at h ⊢; exact b lim sq ap r h
theorem Ct.bind {A:Oracle E->Option α} {B:α->Oracle E->Option R} (a:Ct E A) (b: ∀x,Ct E (B x)):Ct E (fun O=>(A O).bind fun x=>B x O):=by
 intro lim sq ap r h;obtain ⟨x,hx,hr⟩:=qS.1 h;obtain ⟨N,hN⟩:=a lim sq ap x hx;obtain ⟨M,hM⟩:=b x lim sq ap r hr;exact ⟨max N M,fun n hn=>by simp only [hN n (by omega),qa];exact hM n (by omega)⟩
theorem Ct.bindc {a:Option α} {B:α->Oracle E->Option R} (b: ∀x,Ct E (B x)):Ct E (fun O=>a.bind fun x=>B x O):=Ct.bind (Ct.const a) b
theorem Ct.bindS {A:Oracle E->Option (α⊕β)} {B:α->Oracle E->Option R} {D:β->Oracle E->Option R} (a:Ct E A) (b: ∀x,Ct E (B x)) (d: ∀x,Ct E (D x)):Ct E (fun O=>(A O).bind (Sum.elim (fun x=>B x O) (fun x=>D x O))):=by
 intro lim sq ap r h;obtain ⟨x,hx,hr⟩:=qS.1 h;obtain ⟨N,hN⟩:=a lim sq ap x hx
 have hb: ∃M,∀n,M<=n->Sum.elim (fun x=>B x (sq n)) (fun x=>D x (sq n)) x=some r:=by
  cases x with
  | inl x=>exact b x lim sq ap r hr
  | inr x=>exact d x lim sq ap r hr
 obtain ⟨M,hM⟩:=hb;exact ⟨max N M,fun n hn=>by simp only [hN n (by omega),qa];exact hM n (by omega)⟩
theorem Ct.map {A:Oracle E->Option α} {g:α->R} (a:Ct E A):Ct E (fun O=>(A O).map g):=by
 intro lim sq ap r h;obtain ⟨x,hx,hr⟩:=Option.map_eq_some_iff.1 h;obtain ⟨N,hN⟩:=a lim sq ap x hx;exact ⟨N,fun n hn=>by simp only [hN n hn,qY,hr]⟩
def treeK (t:Tree) (K:Int->Int->List Int->List Int->List Tree->Option R):Option R:=match t with
 | .nil=>none
 | .mk op v l r kids=>K op v l r kids
theorem Ct.tree {t:Tree} {B:Int->Int->List Int->List Int->List Tree->Oracle E->Option R} (h: ∀op v l r kids,Ct E (B op v l r kids)):Ct E (fun O=>treeK t (fun op v l r kids=>B op v l r kids O)):=by
 cases t with
 | nil=>exact Ct.const none
 | mk op v l r kids=>exact h op v l r kids
theorem Ct.all {xs:List α} {B:α->Oracle E->Option R} {r:R} (b: ∀x,Ct E (B x)) {lim:Oracle E} {sq:Nat->Oracle E} (ap:Ap lim sq):(∀p∈xs,B p lim=some r)-> ∃N,∀n,N<=n-> ∀p∈xs,B p (sq n)=some r:=by
 induction xs with
 | nil=>exact fun _=>⟨0,fun _ _ p hp=>by simp at hp⟩
 | cons a l ih=>
  intro h;obtain ⟨N,hN⟩:=ih (fun p hp=>h p (qn _ hp));obtain ⟨M,hM⟩:=b a lim sq ap r (h a (qv ..));refine ⟨max N M,fun n hn p hp=>?_⟩;rcases qz.1 hp with rfl | hp
  ·exact hM n (by omega)
  ·exact hN n (by omega) p hp
theorem zEd {xs:List α} {a:Option R} {f:α->Option R} {r:R} (h0:xs= []->a=some r) (h1: ∀p∈xs,f p=some r):pickL xs a f=some r:=by
 cases xs with
 | nil=>exact h0 rfl
 | cons p l=>
  have hp:=h1 p (qv ..);simp only [pickL];rw [qb (fun q hq=>(h1 q hq).trans hp.symm)];exact hp
theorem Ct.pick {xs:List α} {A:Oracle E->Option R} {B:α->Oracle E->Option R} (a:Ct E A) (b: ∀x,Ct E (B x)):Ct E (fun O=>pickL xs (A O) (fun p=>B p O)):=by
 intro lim sq ap r h;obtain ⟨h0,h1⟩:=zBm h;obtain ⟨N,hN⟩:=Ct.all b ap h1;by_cases hx:xs= []
 ·obtain ⟨M,hM⟩:=a lim sq ap r (h0 hx);exact ⟨max N M,fun n hn=>zEd (fun _=>hM n (by omega)) (fun p hp=>hN n (by omega) p hp)⟩
 ·exact ⟨N,fun n hn=>zEd (fun h=>absurd h hx) (fun p hp=>hN n hn p hp)⟩
theorem Ct.C (f:Nat) (x:(E.ps f).den):Ct E (fun O=>O.C f x):=fun _ _ ap _ h=>ap.C _ _ _ h
theorem Ct.L (f:Nat) (h:LoopH) (c:Code) (x:h.hτ.den):Ct E (fun O=>O.L f h c x):=fun _ _ ap _ k=>ap.L _ _ _ _ _ k
end
end Go.Proofs.YtchkojfhcdcnmaaGreatMd.Ev
