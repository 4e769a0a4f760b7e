/- A text of its own: Cl; no condition but those that each theorem names. -/
import Derived.Test.YtchkojfhcdcnmaaGreatMdEnv
import Derived.Test.YtchkojfhcdcnmaaGreatMdEvWt
import Derived.Shelf.RegionOpenPlain
import Derived.Test.YtchkojfhcdcnmaaGreatMdWt
import Derived.Test.YtchkojfhcdcnmaaGreatMdSh
namespace Go.Proofs.YtchkojfhcdcnmaaGreatMd.Ev
open Go Go.Lib Go.RowKit Go.Proofs
set_option maxHeartbeats 2000000 in
set_option maxRecDepth 100000 in
theorem clone117:CloneOK Tryz.prog 117 22:=by
  intro te hte w N e xs v himm hes hN hE hroom;have t22:=Tryz.underlying22;have hte0:elemP Tryz.prog 22=some 3:=by kernel_rfl
  obtain rfl:te=3:=qh (hte.symm.trans hte0);obtain ⟨v',w',hrun,hfin⟩:=zzr himm t22 (by kernel_rfl) (by decide+kernel) hes hN hE hroom;obtain ⟨a,cap,es,rfl,hcap,hlen,hel,hpt⟩:=hE;have q22: ∀(w:World) (a:Option Addr) (n c n' c':Nat),(binOp .eql 22 (.slice a n c) (.slice none n' c')).run Tryz.prog w= .ok (.bool a.isNone) w:=fun w a n c n' c'=>Lib.run_eql_slice_nil w _ _ a n c n' c' Tryz.underlying22
  have u22: ∀w,Sem.run Tryz.prog (underlying 22) w= .ok (TypeDesc.slice 3) w:=run_underlying t22
  cases a with
  | none=>
    have hx:xs= []:=Classical.byContradiction fun hn=>by
      obtain ⟨b,off,h,_⟩:=hpt hn;cases h
    subst hx
    go_enter Tryz.func117,Tryz.ntmps117
    go_wp2
    go_ret
    exact ⟨[],Moves.refl w,.inl ⟨none,rfl,rfl,rfl⟩,by simp,List.nodup_nil⟩
  | some a=>
    go_enter Tryz.func117,Tryz.ntmps117
    go_wp2_with (at_builtin;refine zxf rfl _ _ 22 rfl rfl rfl hrun ?_)
    go_wp2
    go_ret
    exact hfin
set_option maxHeartbeats 2000000 in
set_option maxRecDepth 100000 in
theorem clone249:CloneOK Tryz.prog 249 60:=by
  intro te hte w N e xs v himm hes hN hE hroom;have t60:=Tryz.underlying60;have hte0:elemP Tryz.prog 60=some 139:=by kernel_rfl
  obtain rfl:te=139:=qh (hte.symm.trans hte0);obtain ⟨v',w',hrun,hfin⟩:=zzr himm t60 (by kernel_rfl) (by decide+kernel) hes hN hE hroom;obtain ⟨a,cap,es,rfl,hcap,hlen,hel,hpt⟩:=hE;have q60: ∀(w:World) (a:Option Addr) (n c n' c':Nat),(binOp .eql 60 (.slice a n c) (.slice none n' c')).run Tryz.prog w= .ok (.bool a.isNone) w:=fun w a n c n' c'=>Lib.run_eql_slice_nil w _ _ a n c n' c' Tryz.underlying60
  have u60: ∀w,Sem.run Tryz.prog (underlying 60) w= .ok (TypeDesc.slice 139) w:=run_underlying t60
  cases a with
  | none=>
    have hx:xs= []:=Classical.byContradiction fun hn=>by
      obtain ⟨b,off,h,_⟩:=hpt hn;cases h
    subst hx
    go_enter Tryz.func249,Tryz.ntmps249
    go_wp2
    go_ret
    exact ⟨[],Moves.refl w,.inl ⟨none,rfl,rfl,rfl⟩,by simp,List.nodup_nil⟩
  | some a=>
    go_enter Tryz.func249,Tryz.ntmps249
    go_wp2_with (at_builtin;refine zxf rfl _ _ 60 rfl rfl rfl hrun ?_)
    go_wp2
    go_ret
    exact hfin
set_option maxHeartbeats 2000000 in
set_option maxRecDepth 100000 in
theorem clone296:CloneOK Tryz.prog 296 54:=by
  intro te hte w N e xs v himm hes hN hE hroom;have t54:=Tryz.underlying54;have hte0:elemP Tryz.prog 54=some 22:=by kernel_rfl
  obtain rfl:te=22:=qh (hte.symm.trans hte0);obtain ⟨v',w',hrun,hfin⟩:=zzr himm t54 (by kernel_rfl) (by decide+kernel) hes hN hE hroom;obtain ⟨a,cap,es,rfl,hcap,hlen,hel,hpt⟩:=hE;have q54: ∀(w:World) (a:Option Addr) (n c n' c':Nat),(binOp .eql 54 (.slice a n c) (.slice none n' c')).run Tryz.prog w= .ok (.bool a.isNone) w:=fun w a n c n' c'=>Lib.run_eql_slice_nil w _ _ a n c n' c' Tryz.underlying54
  have u54: ∀w,Sem.run Tryz.prog (underlying 54) w= .ok (TypeDesc.slice 22) w:=run_underlying t54
  cases a with
  | none=>
    have hx:xs= []:=Classical.byContradiction fun hn=>by
      obtain ⟨b,off,h,_⟩:=hpt hn;cases h
    subst hx
    go_enter Tryz.func296,Tryz.ntmps296
    go_wp2
    go_ret
    exact ⟨[],Moves.refl w,.inl ⟨none,rfl,rfl,rfl⟩,by simp,List.nodup_nil⟩
  | some a=>
    go_enter Tryz.func296,Tryz.ntmps296
    go_wp2_with (at_builtin;refine zxf rfl _ _ 54 rfl rfl rfl hrun ?_)
    go_wp2
    go_ret
    exact hfin
set_option maxHeartbeats 2000000 in
set_option maxRecDepth 100000 in
theorem grow293:GrowOK Tryz.prog 293 60:=by
  intro te hte w N e n himm hes hroom;have t60:=Tryz.underlying60;have hte0:elemP Tryz.prog 60=some 139:=by kernel_rfl
  obtain rfl:te=139:=qh (hte.symm.trans hte0);obtain ⟨it,z,hi1,hi2,hi3,hi4,hi5⟩:=zjC (P:=Tryz.prog) (t:=139) (by kernel_rfl);have hb0:bytesP Tryz.prog 139=56:=by kernel_rfl
  have hs0:szP Tryz.prog 139≠0:=by decide+kernel
  by_cases hn:n=0
  · subst hn
    go_enter Tryz.func293,Tryz.ntmps293
    go_wp2
    go_ret
    exact ⟨[],Moves.refl w,.inl ⟨none,rfl,rfl,rfl⟩,by simp,List.nodup_nil⟩
  · rw [hb0] at hroom;have hrz:=Lib.run_append_nil_zeros (P:=Tryz.prog) w 60 3 60 139 it z .i64 .i64 t60 Tryz.underlying3 hi1 hi2 n (by omega) (by rw [hi3];exact Nat.pos_of_ne_zero hs0) (by omega) (by rw [hi5,hb0];omega);have hrep:=zEK (P:=Tryz.prog) (te:=139) (e:=e) (w:=w) (N:=N) (n:=n) hes (hi4.trans hi3) (by unfold maxLen;omega);clear hi4;generalize z.cells=zc at hrz hrep;have h1: ¬((n:Int)<0):=by omega
    have h2:(n:Int)>0:=by omega
    have h3:wrap64 ((n:Int)-0)=(n:Int):=by unfold wrap64;omega
    have h4:wrap64 ((n:Int))=(n:Int):=by unfold wrap64;omega
    go_enter Tryz.func293,Tryz.ntmps293
    go_wp2_with (at_builtin;refine Lib.wpList_append_run _ rfl _ _ _ _ rfl _ _ rfl rfl _ _ hrz ?_)
    go_wp2
    go_ret
    first
    | exact ⟨[w.heap.size],(Moves.drew w).trans (Moves.alloc w.drew _),hrep,by simp,by simp⟩
    | exact ⟨(Moves.alloc w _).trans (Moves.drew _),[w.heap.size],hrep,by simp,by simp⟩
set_option maxHeartbeats 2000000 in
set_option maxRecDepth 100000 in
theorem grow316:GrowOK Tryz.prog 316 22:=by
  intro te hte w N e n himm hes hroom;have t22:=Tryz.underlying22;have hte0:elemP Tryz.prog 22=some 3:=by kernel_rfl
  obtain rfl:te=3:=qh (hte.symm.trans hte0);obtain ⟨it,z,hi1,hi2,hi3,hi4,hi5⟩:=zjC (P:=Tryz.prog) (t:=3) (by kernel_rfl);have hb0:bytesP Tryz.prog 3=8:=by kernel_rfl
  have hs0:szP Tryz.prog 3≠0:=by decide+kernel
  by_cases hn:n=0
  · subst hn
    go_enter Tryz.func316,Tryz.ntmps316
    go_wp2
    go_ret
    exact ⟨[],Moves.refl w,.inl ⟨none,rfl,rfl,rfl⟩,by simp,List.nodup_nil⟩
  · rw [hb0] at hroom;have hrz:=Lib.run_append_nil_zeros (P:=Tryz.prog) w 22 3 22 3 it z .i64 .i64 t22 Tryz.underlying3 hi1 hi2 n (by omega) (by rw [hi3];exact Nat.pos_of_ne_zero hs0) (by omega) (by rw [hi5,hb0];omega);have hrep:=zEK (P:=Tryz.prog) (te:=3) (e:=e) (w:=w) (N:=N) (n:=n) hes (hi4.trans hi3) (by unfold maxLen;omega);clear hi4;generalize z.cells=zc at hrz hrep;have h1: ¬((n:Int)<0):=by omega
    have h2:(n:Int)>0:=by omega
    have h3:wrap64 ((n:Int)-0)=(n:Int):=by unfold wrap64;omega
    have h4:wrap64 ((n:Int))=(n:Int):=by unfold wrap64;omega
    go_enter Tryz.func316,Tryz.ntmps316
    go_wp2_with (at_builtin;refine Lib.wpList_append_run _ rfl _ _ _ _ rfl _ _ rfl rfl _ _ hrz ?_)
    go_wp2
    go_ret
    first
    | exact ⟨[w.heap.size],(Moves.drew w).trans (Moves.alloc w.drew _),hrep,by simp,by simp⟩
    | exact ⟨(Moves.alloc w _).trans (Moves.drew _),[w.heap.size],hrep,by simp,by simp⟩
theorem delOK:DelOK Tryz.prog 328:=by
  intro blk cap i d w hH hc hm hi;obtain ⟨it,z,hi1,hi2,hi3,hi4,hi5⟩:=zjC (P:=Tryz.prog) (t:=22) (by kernel_rfl);exact Tryz.slices_Delete_f328 encS oneSlV (none,0,0) Tryz.zeroValue22 it hi1 (hi3.trans (by kernel_rfl)) blk 0 cap i (i+1) d w hH hc hm (by omega) hi
theorem extD: ∀(g:(E1.ps 328).den->Option (E1.Ret 328)),E1.ext 328=some g-> ∀(x:(E1.ps 328).den) (yz:E1.Ret 328),g x=some yz-> ∀(w:World) (N:Nat->Prop) (us:List Value) (G:List Nat),RepAs (memOf w) N (E1.ps 328) x us G->G.Nodup->(∀k∈G,k<w.heap.size∧ ¬N k)->(∀k,N k->k<w.heap.size)->E1.tabs w N->
    Calls E1.P (rl 328) us.toArray w (Post fun v w'=> ∃N' rs G1 G2,Done E1 328 yz.1 yz.2 us G N w v w' N' rs G1 G2):=by
  intro g hg
  obtain rfl:g=deG:=by
    have:some deG=some g:=hg;exact (qh this).symm
  intro x yz hx w N us G hr hnd hG hN hT;obtain ⟨xs,i,j,⟨⟩⟩:=(x:List (List Int)×Int×Int×Unit);have hx':(if 0<=i∧j=i+1∧j<=(List.length xs:Int) then some ((xs.take (Int.toNat i)++xs.drop (Int.toNat j),()),()) else none:Option ((List (List Int)×Unit)×Unit))=some yz:=hx;split at hx'
  · rename_i hcond;obtain rfl:=qh hx';refine Calls.mono (show Calls E1.P (rl 328) us.toArray w _ from zHz delOK hcond.1 hcond.2.1 hcond.2.2 hr hG hN) (fun e w' hp=>?_)
    cases e with
    | returned v=>
      obtain ⟨hmv,hlt,hrep,hsz,u1,u2,u3,rfl⟩:=hp
      exact ⟨N,[v],G,[],hmv,fun _ h=>h,fun _ h=> .inl h,hlt,rfl,hrep,rfl,by simpa using hnd,fun k hk=>⟨by have:=hG k (by simpa using hk);rw [hsz];exact this.1,(hG k (by simpa using hk)).2,.inl (by simpa using hk)⟩⟩
    | _=>exact hp.elim
  · cases hx'
theorem extAll: ∀(f:Nat) (g:(E1.ps f).den->Option (E1.Ret f)),E1.ext f=some g-> ∀(x:(E1.ps f).den) (yz:E1.Ret f),g x=some yz-> ∀(w:World) (N:Nat->Prop) (us:List Value) (G:List Nat),RepAs (memOf w) N (E1.ps f) x us G->G.Nodup->(∀k∈G,k<w.heap.size∧ ¬N k)->(∀k,N k->k<w.heap.size)->E1.tabs w N->
    Calls E1.P (rl f) us.toArray w (Post fun v w'=> ∃N' rs G1 G2,Done E1 f yz.1 yz.2 us G N w v w' N' rs G1 G2):=by
  intro f g hg;by_cases h229:f=229
  · subst h229;exact extW g hg
  by_cases h328:f=328
  · subst h328;exact extD g hg
  have:E1.ext f=none:=(dif_neg h229).trans ((dif_neg h328).trans (rfl));rw [this] at hg;cases hg
theorem extOk:ExtSound E1:=by
  refine ⟨⟨fun f t h=>?_,fun f t h=>?_⟩,extAll⟩
  · have h':List.lookup f [(117,22),(249,60),(296,54)]=some t:=h;by_cases h117:f=117
    · subst h117;obtain rfl:22=t:=by simpa [List.lookup] using h'
      exact clone117
    by_cases h249:f=249
    · subst h249;obtain rfl:60=t:=by simpa [List.lookup] using h'
      exact clone249
    by_cases h296:f=296
    · subst h296;obtain rfl:54=t:=by simpa [List.lookup] using h'
      exact clone296
    exact absurd h' (by simp [List.lookup,beq_false_of_ne h117,beq_false_of_ne h249,beq_false_of_ne h296])
  · have h':List.lookup f [(293,60),(316,22)]=some t:=h;by_cases h293:f=293
    · subst h293;obtain rfl:60=t:=by simpa [List.lookup] using h'
      exact grow293
    by_cases h316:f=316
    · subst h316;obtain rfl:22=t:=by simpa [List.lookup] using h'
      exact grow316
    exact absurd h' (by simp [List.lookup,beq_false_of_ne h293,beq_false_of_ne h316])
end Go.Proofs.YtchkojfhcdcnmaaGreatMd.Ev