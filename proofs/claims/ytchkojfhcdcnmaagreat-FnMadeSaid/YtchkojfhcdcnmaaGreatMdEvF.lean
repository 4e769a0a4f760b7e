/- Texts laid together: EvD, EvE, EvF; no condition but those that each theorem names. -/
import Derived.Test.YtchkojfhcdcnmaaGreatMdEvC
namespace Go.Proofs.YtchkojfhcdcnmaaGreatMd.Ev
open Go
theorem Sto.set_same (s:Sto) (id:Nat) (e:Nat×Obj):s.set id e id=e:=by simp [Sto.set]
theorem Sto.set_ne (s:Sto) {id i:Nat} (e:Nat×Obj) (h:i≠id):s.set id e i=s i:=by simp [Sto.set,h]
theorem ObjRep.goes {m m':Mem} {N N':Nat->Prop} {s s':Sto} {hd hd':Nat->Value} (hN: ∀b,N b->N' b∧m' b=m b) (g:Goes s s' hd hd') {h:Value} {F:List Nat} (hF: ∀k∈F,m' k=m k):
  ∀ {o:Obj},ObjRep m N s hd o h F->ObjRep m' N' s' hd' o h F
 | .dead,hh=>hh
 | .vec e xs,hh=>RepT.mono hN hF (τ:= .own e) hh
 | .fvec e xs,hh=>⟨hh.1,RepT.mono hN (by simp) (τ:= .sl e) hh.2⟩
 | .lvec e xs,hh=>RepT.mono hN hF (τ:= .own e) hh
 | .box cs,⟨k,vs,T,h1,h2,h3,h4⟩=>⟨k,vs,T,h1,by rw [hF k (by rw [h4];simp),h2],RepCs.goes hN g h3,h4⟩
 | .fbox τ x,hh=>⟨hh.1,RepT.mono hN (by simp) (τ:= .ptr τ) hh.2.1,hh.2.2⟩
 | .ovec _ _,hh=>hh
 | .hvec _ _ _ _ _ _ _,⟨v0,Fa,Fb,h1,h2,h3,h4,h5⟩=>⟨v0,Fa,Fb,h1,RepC.goes hN g h2,h3,h4,h5.mono hN (by rw [<-h3];exact hF)⟩
 | .obox,hh=>hh
 | .mapo τ xs,hh=>RepT.mono hN hF (τ:= .map τ) hh
 | .omap,hh=>hh
 | .itero τ x,hh=>RepT.mono hN hF (τ:= .iter τ) hh
 | .sbo T te x,hh=>RepT.mono hN hF (τ:= .sb T te) hh
theorem SInv.upd {m m':Mem} {N N':Nat->Prop} {s:Sto} {hd hd':Nat->Value} {F:Nat->List Nat} {size size':Nat} (I:SInv m N s hd F size) (id:Nat) (ent:Nat×Obj) (Fn:List Nat)
  (hsz:size<=size') (hN: ∀b,N b->N' b∧m' b=m b) (hN': ∀k,N' k->k<size'∧(∀i,i≠id->k∉F i)∧k∉Fn)
  (hm: ∀i,i≠id-> ∀k∈F i,m' k=m k) (hFn:Fn.Nodup) (hFn': ∀k∈Fn,k<size'∧ ∀i,i≠id->k∉F i)
  (g:Goes s (s.set id ent) hd hd') (hhd: ∀i,i≠id->hd' i=hd i) (ho:ObjRep m' N' (s.set id ent) hd' ent.2 (hd' id) Fn):
  SInv m' N' (s.set id ent) hd' (fun i=>if i=id then Fn else F i) size':=by
 refine ⟨fun i=>?_,fun i j k hi hj=>?_,fun i=>?_,fun i k hi hn=>?_,fun i k hi=>?_,fun k hk=>(hN' k hk).1⟩
 ·by_cases e:i=id
  ·subst e;simp only [qf,Sto.set_same];exact ho
  ·simp only [e,qe,Sto.set_ne s ent e,hhd i e];exact ObjRep.goes hN g (hm i e) (I.obj i)
 ·by_cases e:i=id<;>by_cases e':j=id
  ·rw [e,e']
  ·simp only [e,qf] at hi;simp only [e',qe] at hj;exact absurd hj ((hFn' k hi).2 j e')
  ·simp only [e,qe] at hi;simp only [e',qf] at hj;exact absurd hi ((hFn' k hj).2 i e)
  ·simp only [e,qe] at hi;simp only [e',qe] at hj;exact I.once i j k hi hj
 ·by_cases e:i=id
  ·simp only [e,qf];exact hFn
  ·simp only [e,qe];exact I.nodup i
 ·by_cases e:i=id
  ·simp only [e,qf] at hi;exact (hN' k hn).2.2 hi
  ·simp only [e,qe] at hi;exact (hN' k hn).2.1 i e hi
 ·by_cases e:i=id
  ·simp only [e,qf] at hi;exact (hFn' k hi).1
  ·simp only [e,qe] at hi;exact Nat.lt_of_lt_of_le (I.ltF i k hi) hsz
theorem Goes.set_like {s:Sto} {hd:Nat->Value} (id:Nat) (o:Obj) (h1:o.isV=true->(s id).2.isV=true∧o.esz=(s id).2.esz∧(s id).2.vlen<=o.vlen) (h2:o.isB=true->(s id).2.isB=true):Goes s (s.set id ((s id).1,o)) hd hd:=by
 refine ⟨fun i=>?_,fun i _ hv=>?_,fun i _ hv=>?_⟩<;>by_cases e:i=id
 ·subst e;simp [Sto.set_same]
 ·simp [Sto.set_ne _ _ e]
 ·subst e;simp only [Sto.set_same] at hv ⊢; exact ⟨(h1 hv).1,by trivial,(h1 hv).2.1,(h1 hv).2.2⟩
 ·rw [Sto.set_ne _ _ e] at hv ⊢; exact ⟨hv,rfl,rfl,ql _⟩
 ·subst e;simp only [Sto.set_same] at hv;exact ⟨h2 hv,by trivial⟩
 ·rw [Sto.set_ne _ _ e] at hv;exact ⟨hv,rfl⟩
theorem Goes.set_new {s:Sto} {hd hd':Nat->Value} (id ver:Nat) (o:Obj) (hv:(s id).1<ver) (hhd: ∀i,i≠id->hd' i=hd i):Goes s (s.set id (ver,o)) hd hd':=by
 refine ⟨fun i=>?_,fun i he hv'=>?_,fun i he hv'=>?_⟩<;>by_cases e:i=id
 ·subst e;simp [Sto.set_same];omega
 ·simp [Sto.set_ne _ _ e]
 ·subst e;simp only [Sto.set_same] at he;omega
 ·rw [Sto.set_ne _ _ e] at hv' ⊢; exact ⟨hv',hhd i e,rfl,ql _⟩
 ·subst e;simp only [Sto.set_same] at he;omega
 ·rw [Sto.set_ne _ _ e] at hv';exact ⟨hv',hhd i e⟩
theorem zqn: ∀τ:Ty,(immOf τ).sz=τ.sz
 | .agg fs=>zqn fs
 | .cons a r=>by show (immOf a).sz+(immOf r).sz=a.sz+r.sz;rw [zqn a,zqn r]
 | .own _ | .bool | .int _ | .str | .sl _ | .nil | .ptr _ | .box _ | .fn _ _ | .tree | .unk | .map _ | .mv _ | .opq | .imap _ | .iter _ | .optr _ | .sb _ _=>rfl
theorem zJ6 {α β:Type} (h:List α=List β) (h':α=β) (xs:List α):(cast h xs).length=xs.length:=by subst h';rfl
theorem zJ0 {α β:Type} (h:List α=List β) (h':α=β) (xs:List α) (i:Nat) (h1:i<(cast h xs).length) (h2:i<xs.length):(cast h xs)[i]=cast h' xs[i]:=by subst h';rfl
theorem zHC {α β γ δ:Type} (h:(α×β)=(γ×δ)) (h1:α=γ) (h2:β=δ) (x:α×β):cast h x=(cast h1 x.1,cast h2 x.2):=by subst h1;subst h2;rfl
theorem zs8 {e:Ty} (xs:List e.den):List.length (toImm (.own e) xs)=xs.length:=zJ6 _ (zkX e).symm xs
theorem zHD {e:Ty} (xs:List e.den) (i:Nat) (h1:i<List.length (toImm (.own e) xs)) (h2:i<xs.length):(show List (immOf e).den from toImm (.own e) xs)[i]'h1=toImm e xs[i]:=zJ0 _ (zkX e).symm xs i h1 h2
theorem RepT.toImm {m:Mem} {N N':Nat->Prop} (hN: ∀b,N b->N' b): ∀ {τ:Ty} {x:τ.den} {cs:List Value} {F:List Nat},(immOf τ).isImm=true->(∀k∈F,N' k)->RepT m N τ x cs F->RepT m N' (immOf τ) (Ev.toImm τ x) cs []
 | .bool,_,_,_,_,_,h | .int _,_,_,_,_,_,h | .str,_,_,_,_,_,h | .nil,_,_,_,_,_,h=>⟨h.1,rfl⟩
 | .sl e,xs,_,F,hi,_,h=>by
  have:=RepT.imm (τ:= .sl e) hi h;subst this
  exact RepT.mono (τ:= .sl e) (fun b hb=>⟨hN b hb,rfl⟩) (by simp) h
 | .ptr e,xs,_,F,hi,_,h=>by
  have:=RepT.imm (τ:= .ptr e) hi h;subst this
  exact RepT.mono (τ:= .ptr e) (fun b hb=>⟨hN b hb,rfl⟩) (by simp) h
 | .fn f caps,xs,_,F,hi,_,h=>by
  have:=RepT.imm (τ:= .fn f caps) hi h;subst this
  exact RepT.mono (τ:= .fn f caps) (fun b hb=>⟨hN b hb,rfl⟩) (by simp) h
 | .tree,xs,_,F,hi,_,h=>by
  have:=RepT.imm (τ:= .tree) hi h;subst this
  exact RepT.mono (τ:= .tree) (fun b hb=>⟨hN b hb,rfl⟩) (by simp) h
 | .box e,_,_,_,hi,_,_=>by simp [immOf,Ty.isImm] at hi
 | .map e,_,_,_,hi,_,_=>by simp [immOf,Ty.isImm] at hi
 | .iter e,_,_,_,hi,_,_=>by simp [immOf,Ty.isImm] at hi
 | .sb _ _,_,_,_,hi,_,_=>by simp [immOf,Ty.isImm] at hi
 | .mv e,_,_,_,hi,_,_=>by simp [immOf,Ty.isImm] at hi
 | .optr e,xs,_,F,hi,_,h=>by
  have:=RepT.imm (τ:= .optr e) hi h;subst this
  exact RepT.mono (τ:= .optr e) (fun b hb=>⟨hN b hb,rfl⟩) (by simp) h
 | .imap e,xs,_,F,hi,_,h=>by
  have:=RepT.imm (τ:= .imap e) hi h;subst this
  exact RepT.mono (τ:= .imap e) (fun b hb=>⟨hN b hb,rfl⟩) (by simp) h
 | .opq,xs,_,F,hi,_,h=>by
  have:=RepT.imm (τ:= .opq) hi h;subst this
  exact RepT.mono (τ:= .opq) (fun b hb=>⟨hN b hb,rfl⟩) (by simp) h
 | .unk,xs,_,F,hi,_,h=>by
  have:=RepT.imm (τ:= .unk) hi h;subst this
  exact RepT.mono (τ:= .unk) (fun b hb=>⟨hN b hb,rfl⟩) (by simp) h
 | .agg fs,_,_,_,hi,hF,h=>RepT.toImm (τ:=fs) hN hi hF h
 | .cons a r,x,_,_,hi,hF,⟨c1,c2,F1,F2,h1,h2,h3,h4⟩=>by
  subst h2;have hi':(immOf a).isImm=true∧(immOf r).isImm=true:=by simpa only [immOf,Ty.isImm,qq] using hi
  have e:Ev.toImm (.cons a r) x=(Ev.toImm a x.1,Ev.toImm r x.2):=zHC _ (zkX a).symm (zkX r).symm x;rw [e]
  exact ⟨c1,c2,[],[],h1,rfl,RepT.toImm hN hi'.1 (fun k hk=>hF k (qw _ hk)) h3,RepT.toImm hN hi'.2 (fun k hk=>hF k (qB _ hk)) h4⟩
 | .own e,xs,cs,F,hi,hF,h=>by
  have hi':(immOf e).isImm=true:=hi;have hl:=zs8 (e:=e) xs;rcases h with ⟨a,h1,h2,h3⟩ | ⟨g,cap,c,T,es,Fs,h1,h2,h3,h4,h5,h6,h7,h8,h9,h10⟩
  ·subst h2;exact ⟨rfl,a,0,[],by rw [hl];exact h1,by rw [hl];exact ql _,by rw [hl];rfl,fun i h=>absurd h (by rw [hl];simp),fun h=>absurd (qX.2 h) (by rw [hl];simp)⟩
  ·subst h10;refine ⟨rfl,some ⟨g,0,none⟩,cap,es,by rw [hl];exact h1,by rw [hl];exact h4,by rw [hl];exact h6,fun i hi1 hi2=>?_,fun _=>⟨g,0,rfl,hF g (by simp),c,T,(0,0),h2,fun j v hj=>?_⟩⟩
   ·have hix:i<List.length xs:=by rw [<-hl];exact hi1
    have h8':=h8 i hix hi2 (by omega);have:=RepT.toImm (N':=N') hN hi' (fun k hk=>hF k (qn _ (List.mem_flatten.2 ⟨_,qi (by omega),hk⟩))) h8';rw [<-zHD xs i hi1 hix] at this;exact this
   ·rw [<-h9,List.getElem?_take] at hj;split at hj
    ·simpa using hj
    ·cases hj
theorem RepT.map_own {m:Mem} {N:Nat->Prop} {e' e:Ty} (hs:e'.sz=e.sz) (f:e'.den->e.den) (hf: ∀(x:e'.den) (cs:List Value) (F:List Nat),RepT m N e' x cs F->RepT m N e (f x) cs F) {xs:List e'.den} {cs:List Value} {F:List Nat} (h:RepT m N (.own e') xs cs F):RepT m N (.own e) (xs.map f) cs F:=by
 rcases h with ⟨a,h1,h2,h3⟩ | ⟨g,cap,c,T,es,Fs,h1,h2,h3,h4,h5,h6,h7,h8,h9,h10⟩
 ·exact .inl ⟨a,h1,by rw [h2];rfl,h3⟩
 ·have hl:(xs.map f).length=List.length xs:=qV ..;refine .inr ⟨g,cap,c,T,es,Fs,by rw [hl];exact h1,h2,by rw [<-hs];exact h3,by rw [hl];exact h4,h5,by rw [hl];exact h6,by rw [hl];exact h7,fun i h h' h''=>?_,h9,h10⟩;have hx:i<List.length xs:=by rw [<-hl];exact h
  have:=hf _ _ _ (h8 i hx h' h'');simpa [List.getElem_map] using this
theorem zKW {m:Mem} {N:Nat->Prop} {e' e:Ty} {xs:List e'.den} {ys:List e.den} (hc:coe e' e xs=some ys) {cs:List Value} {F:List Nat} (h:RepT m N (.own e') xs cs F):RepT m N (.own e) ys cs F∧e'.sz=e.sz∧ys.length=List.length xs:=by
 unfold coe at hc;split at hc
 ·split at hc
  ·rename_i a b xs' h';obtain rfl:=qh hc;cases h';exact ⟨RepT.map_own (e':= .own a) (e:= .mv a) rfl (fun x=>some (true,x)) (fun x cs F hr=>hr) h,rfl,qV ..⟩
  ·cases hc
 ·split at hc
  ·rename_i a b xs' h';obtain rfl:=qh hc;cases h';exact ⟨RepT.map_own (e':= .sl a) (e:= .mv a) rfl (fun x=>some (false,x)) (fun x cs F hr=>hr) h,rfl,qV ..⟩
  ·cases hc
 ·cases hc
theorem zGx {α:Type} (xs:List (Option (Bool×List α))) (i:Nat) (h:i<xs.length) (h':i<(forceL xs).length) {ys:List α} (hy:xs[i]=some (true,ys)):(forceL xs)[i]=ys:=by
 simp only [forceL,List.getElem_map,hy]
theorem zIJ {m:Mem} {N:Nat->Prop} {a:Ty} {xs:List (Ty.mv a).den} (hc:allOw xs=true) {cs:List Value} {F:List Nat} (h:RepT m N (.own (.mv a)) xs cs F):RepT m N (.own (.own a)) (forceL xs) cs F:=by
 have key: ∀(l:List (Option (Bool×List a.den))) (i:Nat) (hi:i<l.length),allOw l=true-> ∃ys,l[i]=some (true,ys):=by
  intro l
  induction l with
  | nil=>intro i hi;simp at hi
  | cons x l ih=>
   intro i hi ha
   match x,ha with
   | some (true,ys),ha=>
    cases i with
    | zero=>exact ⟨ys,rfl⟩
    | succ i=>exact ih i (by simpa using hi) ha
   | some (false,ys),ha=>simp [allOw] at ha
   | none,ha=>simp [allOw] at ha
 rcases h with ⟨b,h1,h2,h3⟩ | ⟨g,cap,c,T,es,Fs,h1,h2,h3,h4,h5,h6,h7,h8,h9,h10⟩
 ·exact .inl ⟨b,h1,by rw [h2];rfl,h3⟩
 ·have hl:List.length (forceL xs)=List.length xs:=qV ..;refine .inr ⟨g,cap,c,T,es,Fs,by rw [hl];exact h1,h2,h3,by rw [hl];exact h4,h5,by rw [hl];exact h6,by rw [hl];exact h7,fun i h h' h''=>?_,h9,h10⟩;have hx:i<List.length xs:=by rw [<-hl];exact h
  have h8':=h8 i hx h' h'';obtain ⟨ys,hy⟩:=key xs i hx hc;rw [hy] at h8';have e:(forceL xs)[i]'h=ys:=zGx xs i hx h hy;rw [show (show List (Ty.own a).den from forceL xs)[i]'h=ys from e];exact h8'
theorem RepT.read {m:Mem} {N N':Nat->Prop} {e:Ty} {xs:List e.den} {cs:List Value} {F:List Nat} (he:(immOf e).isImm=true) (hN: ∀b,N b->N' b) (hF: ∀k∈F,N' k) (h:RepT m N (.own e) xs cs F):RepT m N' (.sl (immOf e)) (Ev.toImm (.own e) xs) cs []:=
 RepT.toImm (τ:= .own e) hN he hF h
theorem RepT.read0 {m:Mem} {N N':Nat->Prop} {e:Ty} {xs:List e.den} {cs:List Value} {F:List Nat} (he:e.isImm=true) (hN: ∀b,N b->N' b) (hF: ∀k∈F,N' k) (h:RepT m N (.own e) xs cs F):RepT m N' (.sl e) xs cs []:=by
 rcases h with ⟨a,h1,h2,h3⟩ | ⟨g,cap,c,T,es,Fs,h1,h2,h3,h4,h5,h6,h7,h8,h9,h10⟩
 ·subst h2;exact ⟨rfl,a,0,[],h1,ql _,rfl,fun i h=>absurd h (by simp),fun h=>absurd rfl h⟩
 ·subst h10;refine ⟨rfl,some ⟨g,0,none⟩,cap,es,h1,h4,h6,fun i hi hi'=>?_,fun _=>⟨g,0,rfl,hF g (by simp),c,T,(0,0),h2,fun j v hj=>?_⟩⟩
  ·have h8':=h8 i hi hi' (by omega);rw [RepT.imm he h8'] at h8';exact RepT.mono (fun b hb=>⟨hN b hb,rfl⟩) (by simp) h8'
  ·rw [<-h9,List.getElem?_take] at hj;split at hj
   ·simpa using hj
   ·cases hj
theorem zev {α:Type} {sz:Nat}: ∀(es:List (List α)) (k:Nat),(∀e∈es,e.length=sz)->es.flatten.drop (k*sz)=(es.drop k).flatten
 | [],k,_=>by simp
 | e::es,0,_=>by simp
 | e::es,k+1,h=>by
  have he:e.length=sz:=h e (by simp);rw [List.drop_succ_cons,<-zev es k (fun x hx=>h x (qn _ hx)),List.flatten_cons,List.drop_append,he];rw [show (k+1)*sz-sz=k*sz by rw [Nat.add_mul];omega,List.drop_eq_nil_of_le (by rw [he,Nat.add_mul];omega),qC]
theorem zgJ {α:Type} {sz:Nat}: ∀(es:List (List α)) (k:Nat),(∀e∈es,e.length=sz)->es.flatten.take (k*sz)=(es.take k).flatten
 | [],k,_=>by simp
 | e::es,0,_=>by simp
 | e::es,k+1,h=>by
  have he:e.length=sz:=h e (by simp);rw [List.take_succ_cons,List.flatten_cons,List.flatten_cons,<-zgJ es k (fun x hx=>h x (qn _ hx)),List.take_append,he];rw [show (k+1)*sz-sz=k*sz by rw [Nat.add_mul];omega,List.take_of_length_le (by rw [he,Nat.add_mul];omega)]
theorem zP {α:Type} {sz:Nat}: ∀(es:List (List α)),(∀e∈es,e.length=sz)->es.flatten.length=es.length*sz
 | [],_=>by simp
 | e::es,h=>by
  rw [List.flatten_cons,qL,h e (by simp),zP es (fun x hx=>h x (qn _ hx)),qD,Nat.add_mul];omega
theorem RepT.slice {m:Mem} {N:Nat->Prop} {e:Ty} {xs:List e.den} {hdv:Value} (h:RepT m N (.sl e) xs [hdv] []) {lo hi:Nat} (h1:lo<=hi) (h2:hi<=xs.length):RepT m N (.sl e) ((xs.take hi).drop lo) [subV hdv e.sz lo hi] []:=by
 obtain ⟨_,a,cap,es,e1,hc,hes,hr,hm⟩:=h;have e1':hdv= .slice a (List.length xs) cap:=by simpa using e1
 subst e1'
 have hlen: ∀x∈es,x.length=e.sz:=by
  intro x hx;obtain ⟨i,hi,rfl⟩:=qH.1 hx;exact (hr i (by omega) hi).len
 have hl:List.length ((xs.take hi).drop lo)=hi-lo:=by rw [List.length_drop,List.length_take];omega
 refine ⟨rfl,if cap=lo then a else a.map (·.add (lo*e.sz)),cap-lo,(es.take hi).drop lo,?_,by rw [hl];omega,?_,fun i hi1 hi2=>?_,fun hn=>?_⟩
 ·rw [hl];rfl
 ·rw [hl,List.length_drop,List.length_take];omega
 ·rw [hl] at hi1;have:=hr (lo+i) (by omega) (by omega);simpa using this
 ·have hn':xs≠ []:=by intro e0;subst e0;simp at hn
  obtain ⟨b,off,ea,hb,hcell⟩:=hm hn'
  have hne:lo<hi:=by
   have h0:0<List.length ((xs.take hi).drop lo):=qX.2 hn;rw [hl] at h0;omega
  subst ea;refine ⟨b,off+lo*e.sz,?_,hb,?_⟩
  ·rw [qc (by omega)];simp only [qY,Addr.add];split
   ·rename_i h0;simp [h0]
   ·rfl
  ·have:=hcell.sub (lo*e.sz) ((hi-lo)*e.sz)
   rwa [zev es lo hlen,zgJ (es.drop lo) (hi-lo) (fun x hx=>hlen x (List.mem_of_mem_drop hx)),<-List.drop_take] at this
theorem RepT.slice' {m:Mem} {N:Nat->Prop} {e:Ty} {n:Nat} (hn:e.sz=n) {xs:List e.den} {hdv:Value} (h:RepT m N (.sl e) xs [hdv] []) {lo hi:Nat} (h1:lo<=hi) (h2:hi<=List.length xs):RepT m N (.sl e) ((xs.take hi).drop lo) [subV hdv n lo hi] []:=by
 subst hn;exact RepT.slice h h1 h2
theorem zam {m:Mem} {N:Nat->Prop} {σ τ:Ty} (h:σ=τ) {x:σ.den} {cs:List Value} {F:List Nat} (hr:RepT m N σ x cs F):RepT m N τ (castDen h x) cs F:=by
 subst h;exact hr
def Sn (lend:Bool) (N:Nat->Prop) (s:Sto) (F:Nat->List Nat):Nat->Prop:=bif lend then (fun k=>N k∨ ∃i,(s i).2.isL=true∧k∈F i) else N
theorem Sn.up {lend:Bool} {N:Nat->Prop} {s:Sto} {F:Nat->List Nat} {k:Nat} (h:N k):Sn lend N s F k:=by
 cases lend
 ·exact h
 ·exact .inl h
theorem Sn.go {lend:Bool} {N N':Nat->Prop} {s s':Sto} {F F':Nat->List Nat} (hN: ∀k,N k->N' k) (hk: ∀i,(s i).2.isL=true->s' i=s i∧F' i=F i) {k:Nat} (h:Sn lend N s F k):Sn lend N' s' F' k:=by
 cases lend
 ·exact hN k h
 ·rcases h with h | ⟨i,h1,h2⟩
  ·exact .inl (hN k h)
  ·exact .inr ⟨i,by rw [(hk i h1).1];exact h1,by rw [(hk i h1).2];exact h2⟩
structure PrOK (lend:Bool) (m:Mem) (N:Nat->Prop) (s:Sto) (hd:Nat->Value) (F:Nat->List Nat) (size:Nat) (m0:List Nat) (τ:Ty) (x:τ.den) (rest:List C) (s':Sto) (m1:List Nat) (vs:List Value) (v1 v2:List Value) (N':Nat->Prop) (F':Nat->List Nat) (G:List Nat):Prop where
 vs:vs=v1++v2
 rep:RepT m (Sn lend N' s' F') τ x v1 G
 rest:RepCs m N' s' hd rest v2
 inv:SInv m N' s' hd F' size
 goes:Goes s s' hd hd
 vers: ∀i,(s' i).1=(s i).1
 up: ∀k,N k->N' k
 new: ∀k,N' k->N k∨ ∃i,k∈F i
 sub: ∀i k,k∈F' i->k∈F i
 nod:G.Nodup
 own: ∀k∈G,(∃i,k∈F i)∧ ¬N' k∧ ∀i,k∉F' i
 acc: ∀i∈m0,i∈m1
 loc: ∀i,i∉m1->s' i=s i∧F' i=F i
 keep: ∀i,(s i).2.isL=true->s' i=s i∧F' i=F i
 vk: ∀i (e:Ty) (xs:List e.den),(s' i).2= .vec e xs->s' i=s i∧F' i=F i
 lv: ∀i,(s' i).2.isL=true->F' i=F i∧(s' i=s i∨ ∃(e:Ty) (xs:List e.den),s' i=((s i).1,.lvec e xs)∧(s i).2= .vec e xs)
section
variable {m : Mem} {hd : Nat -> Value} {size : Nat}
theorem zCZ {N:Nat->Prop} {s:Sto} {F:Nat->List Nat} (I:SInv m N s hd F size) {id v:Nat} {e:Ty} {xs:List e.den} (he:(immOf e).isImm=true) (hs:s id=(v,.vec e xs)) (o:Obj) (ho:o= .fvec (immOf e) (toImm (.own e) xs)):
  SInv m (fun k=>N k∨k∈F id) (s.set id (v,o)) hd (fun i=>if i=id then [] else F i) size∧Goes s (s.set id (v,o)) hd hd∧RepT m (fun k=>N k∨k∈F id) (.sl (immOf e)) (toImm (.own e) xs) [hd id] []:=by
 have hob:=I.obj id;rw [hs] at hob;have hr:RepT m (fun k=>N k∨k∈F id) (.sl (immOf e)) (toImm (.own e) xs) [hd id] []:=RepT.read he (fun b hb=> .inl hb) (fun k hk=> .inr hk) hob;have hv:v=(s id).1:=by rw [hs]
 have hg:Goes s (s.set id (v,o)) hd hd:=by
  subst hv;refine Goes.set_like id o (fun _=>?_) (fun hb=>?_)
  ·rw [hs];subst ho;exact ⟨rfl,zqn e,Nat.le_of_eq (zs8 xs).symm⟩
  ·subst ho;simp [Obj.isB] at hb
 refine ⟨I.upd id (v,o) [] (ql _) (fun b hb=>⟨.inl hb,rfl⟩) (fun k hk=>⟨?_,fun i hi hki=>?_,by simp⟩) (fun _ _ _ _=>rfl) List.nodup_nil (by simp) hg (fun _ _=>rfl) ?_,hg,hr⟩
 ·rcases hk with hk | hk
  ·exact I.ltN k hk
  ·exact I.ltF id k hk
 ·rcases hk with hk | hk
  ·exact I.sep i k hki hk
  ·exact hi (I.once i id k hki hk)
 ·subst ho;exact ⟨rfl,hr⟩
theorem zpB {N:Nat->Prop} {s:Sto} {F:Nat->List Nat} (I:SInv m N s hd F size) (id:Nat) (o:Obj) (h1:o.isV=true->(s id).2.isV=true∧o.esz=(s id).2.esz∧(s id).2.vlen<=o.vlen) (h2:o.isB=true->(s id).2.isB=true)
  (ho: ∀s',ObjRep m N s' hd o (hd id) []):
  SInv m N (s.set id ((s id).1,o)) hd (fun i=>if i=id then [] else F i) size∧Goes s (s.set id ((s id).1,o)) hd hd:=by
 have hg:=Goes.set_like (s:=s) (hd:=hd) id o h1 h2;exact ⟨I.upd id _ [] (ql _) (fun b hb=>⟨hb,rfl⟩) (fun k hk=>⟨I.ltN k hk,fun i _ hki=>I.sep i k hki hk,by simp⟩) (fun _ _ _ _=>rfl) List.nodup_nil (by simp) hg (fun _ _=>rfl) (ho _),hg⟩
theorem RepT.own_len {N:Nat->Prop} {e:Ty} {xs:List e.den} {v:Value} {G:List Nat} (h:RepT m N (.own e) xs [v] G): ∃a cap,v= .slice a (List.length xs) cap:=by
 rcases h with ⟨a,h1,h2,_⟩ | ⟨g,cap,c,T,es,Fs,h1,_⟩
 ·subst h2;exact ⟨a,0,by simpa using h1⟩
 ·exact ⟨_,cap,by simpa using h1⟩
end
section
variable {m : Mem} {hd : Nat -> Value} {size : Nat}
theorem PrOK.same' {N:Nat->Prop} {s:Sto} {F:Nat->List Nat} (I:SInv m N s hd F size) {m0 m1:List Nat} {τ:Ty} {x:τ.den} {rest:List C} {v:Value} {vs:List Value}
  {lend:Bool} (h:RepT m (Sn lend N s F) τ x [v] []) (hr:RepCs m N s hd rest vs) (hm: ∀i∈m0,i∈m1):PrOK lend m N s hd F size m0 τ x rest s m1 (v::vs) [v] vs N F [] where
 vs:=rfl
 rep:=h
 rest:=hr
 inv:=I
 goes:=Goes.refl s hd
 vers:=fun _=>rfl
 up:=fun _ h=>h
 new:=fun _ h=> .inl h
 sub:=fun _ _ h=>h
 nod:=List.nodup_nil
 own:=by simp
 acc:=hm
 loc:=fun _ _=>⟨rfl,rfl⟩
 keep:=fun _ _=>⟨rfl,rfl⟩
 vk:=fun _ _ _ _=>⟨rfl,rfl⟩
 lv:=fun _ _=>⟨rfl,.inl rfl⟩
theorem Sn.mono {N:Nat->Prop} {s:Sto} {F:Nat->List Nat} {lend:Bool} {τ:Ty} {x:τ.den} {cs:List Value} {G:List Nat} (h:RepT m N τ x cs G):RepT m (Sn lend N s F) τ x cs G:=
 RepT.mono (fun _ hb=>⟨Sn.up hb,rfl⟩) (fun _ _=>rfl) h
theorem PrOK.same {N:Nat->Prop} {s:Sto} {F:Nat->List Nat} (I:SInv m N s hd F size) {m0 m1:List Nat} {τ:Ty} {x:τ.den} {rest:List C} {v:Value} {vs:List Value}
  {lend:Bool} (h:RepT m N τ x [v] []) (hr:RepCs m N s hd rest vs) (hm: ∀i∈m0,i∈m1):PrOK lend m N s hd F size m0 τ x rest s m1 (v::vs) [v] vs N F []:=PrOK.same' I (Sn.mono h) hr hm
theorem PrOK.freeze {N:Nat->Prop} {s:Sto} {F:Nat->List Nat} (I:SInv m N s hd F size) {id v:Nat} {e:Ty} {xs:List e.den} (he:(immOf e).isImm=true) (hs:s id=(v,.vec e xs)) (o:Obj) (ho:o= .fvec (immOf e) (toImm (.own e) xs)) {lend:Bool}
  {m0:List Nat} {τ:Ty} {x:τ.den} {rest:List C} {u:Value} {vs:List Value} (h: ∀N',RepT m N' (.sl (immOf e)) (toImm (.own e) xs) [hd id] []->RepT m N' τ x [u] []) (hr:RepCs m N s hd rest vs):
  PrOK lend m N s hd F size m0 τ x rest (s.set id (v,o)) (id::m0) (u::vs) [u] vs (fun k=>N k∨k∈F id) (fun i=>if i=id then [] else F i) []:=by
 obtain ⟨h1,h2,h3⟩:=zCZ I he hs o ho;exact
 {vs:=rfl
  rep:=Sn.mono (h _ h3)
  rest:=RepCs.goes (fun b hb=>⟨.inl hb,rfl⟩) h2 hr
  inv:=h1
  goes:=h2
  vers:=fun i=>by
   by_cases e:i=id
   ·subst e;rw [Sto.set_same,hs]
   ·rw [Sto.set_ne _ _ e]
  up:=fun k hk=> .inl hk
  new:=fun k hk=>hk.imp (fun h=>h) (fun h=>⟨id,h⟩)
  sub:=fun i k hk=>by
   by_cases e:i=id
   ·simp [e] at hk
   ·simpa [e] using hk
  nod:=List.nodup_nil
  own:=by simp
  acc:=fun i hi=>qn _ hi
  loc:=fun i hi=>by
   have e:i≠id:=fun h=>hi (by rw [h];exact qv ..)
   exact ⟨Sto.set_ne _ _ e,by simp [e]⟩
  keep:=fun i hi=>by
   have e:i≠id:=fun h=>by subst h;rw [hs] at hi;simp [Obj.isL] at hi
   exact ⟨Sto.set_ne _ _ e,by simp [e]⟩
  vk:=fun i _ _ hi=>by
   have e:i≠id:=fun h=>by subst h;rw [Sto.set_same] at hi;rw [ho] at hi;cases hi
   exact ⟨Sto.set_ne _ _ e,by simp [e]⟩
  lv:=fun i hi=>by
   have e:i≠id:=fun h=>by subst h;rw [Sto.set_same,ho] at hi;simp [Obj.isL] at hi
   exact ⟨by simp [e],.inl (Sto.set_ne _ _ e)⟩}
theorem PrOK.lend {N:Nat->Prop} {s:Sto} {F:Nat->List Nat} (I:SInv m N s hd F size) {id v:Nat} {e:Ty} {xs:List e.den} (he:(immOf e).isImm=true) (hs:s id=(v,.vec e xs))
  {m0:List Nat} {τ:Ty} {x:τ.den} {rest:List C} {u:Value} {vs:List Value} (h: ∀N',RepT m N' (.sl (immOf e)) (toImm (.own e) xs) [hd id] []->RepT m N' τ x [u] []) (hr:RepCs m N s hd rest vs):
  PrOK true m N s hd F size m0 τ x rest (s.set id (v,.lvec e xs)) (id::m0) (u::vs) [u] vs N F []:=by
 have hob:=I.obj id;rw [hs] at hob;have hv:v=(s id).1:=by rw [hs]
 have hg:Goes s (s.set id (v,.lvec e xs)) hd hd:=by
  subst hv;exact Goes.set_like id _ (fun _=>by rw [hs];exact ⟨rfl,rfl,ql _⟩) (by simp [Obj.isB])
 have hF:(fun i=>if i=id then F id else F i)=F:=by
  funext i;by_cases e:i=id
  ·simp [e]
  ·simp [e]
 have hinv:=I.upd (N':=N) (hd':=hd) id (v,.lvec e xs) (F id) (ql _) (fun b hb=>⟨hb,rfl⟩) (fun k hk=>⟨I.ltN k hk,fun i _ hki=>I.sep i k hki hk,fun h=>I.sep id k h hk⟩) (fun _ _ _ _=>rfl) (I.nodup id) (fun k hk=>⟨I.ltF id k hk,fun i hi h=>hi (I.once i id k h hk)⟩) hg (fun _ _=>rfl) hob;rw [hF] at hinv;exact
 {vs:=rfl
  rep:=h _ (RepT.read he (fun b hb=> .inl hb) (fun k hk=> .inr ⟨id,by rw [Sto.set_same];rfl,hk⟩) hob)
  rest:=RepCs.goes (fun b hb=>⟨hb,rfl⟩) hg hr
  inv:=hinv
  goes:=hg
  vers:=fun i=>by
   by_cases e:i=id
   ·subst e;rw [Sto.set_same,hs]
   ·rw [Sto.set_ne _ _ e]
  up:=fun k hk=>hk
  new:=fun k hk=> .inl hk
  sub:=fun i k hk=>hk
  nod:=List.nodup_nil
  own:=by simp
  acc:=fun i hi=>qn _ hi
  loc:=fun i hi=>by
   have e:i≠id:=fun h=>hi (by rw [h];exact qv ..)
   exact ⟨Sto.set_ne _ _ e,rfl⟩
  keep:=fun i hi=>by
   have e:i≠id:=fun h=>by subst h;rw [hs] at hi;simp [Obj.isL] at hi
   exact ⟨Sto.set_ne _ _ e,rfl⟩
  vk:=fun i _ _ hi=>by
   have e:i≠id:=fun h=>by subst h;rw [Sto.set_same] at hi;cases hi
   exact ⟨Sto.set_ne _ _ e,rfl⟩
  lv:=fun i hi=>by
   by_cases e:i=id
   ·subst e;exact ⟨rfl,.inr ⟨_,xs,by rw [Sto.set_same,hv],by rw [hs]⟩⟩
   ·exact ⟨rfl,.inl (Sto.set_ne _ _ e)⟩}
theorem PrOK.kill {N:Nat->Prop} {s:Sto} {F:Nat->List Nat} (I:SInv m N s hd F size) {id v:Nat} {e:Ty} {xs:List e.den} (hs:s id=(v,.vec e xs)) {lend:Bool} {m0:List Nat} {τ:Ty} {x:τ.den} {rest:List C} {u:Value} {vs:List Value}
  (h:RepT m N τ x [u] (F id)) (hr:RepCs m N s hd rest vs):
  PrOK lend m N s hd F size m0 τ x rest (s.set id (v,.ovec e xs)) (id::m0) (u::vs) [u] vs N (fun i=>if i=id then [] else F i) (F id):=by
 have hob:=I.obj id;rw [hs] at hob;obtain ⟨h1,h2⟩:=zpB I id (.ovec e xs) (by rw [hs];exact fun _=>⟨rfl,rfl,ql _⟩) (by simp [Obj.isB]) (fun s'=>⟨rfl,RepT.own_len hob⟩);have hv:(s id).1=v:=by rw [hs]
 rw [hv] at h1 h2;exact
 {vs:=rfl
  rep:=Sn.mono h
  rest:=RepCs.goes (fun b hb=>⟨hb,rfl⟩) h2 hr
  inv:=h1
  goes:=h2
  vers:=fun i=>by
   by_cases e:i=id
   ·subst e;rw [Sto.set_same,hs]
   ·rw [Sto.set_ne _ _ e]
  up:=fun k hk=>hk
  new:=fun k hk=> .inl hk
  sub:=fun i k hk=>by
   by_cases e:i=id
   ·simp [e] at hk
   ·simpa [e] using hk
  nod:=I.nodup id
  own:=fun k hk=>⟨⟨id,hk⟩,I.sep id k hk,fun i hi=>by
   by_cases e:i=id
   ·simp [e] at hi
   ·simp only [e,qe] at hi;exact e (I.once i id k hi hk)⟩
  acc:=fun i hi=>qn _ hi
  loc:=fun i hi=>by
   have e:i≠id:=fun h=>hi (by rw [h];exact qv ..)
   exact ⟨Sto.set_ne _ _ e,by simp [e]⟩
  keep:=fun i hi=>by
   have e:i≠id:=fun h=>by subst h;rw [hs] at hi;simp [Obj.isL] at hi
   exact ⟨Sto.set_ne _ _ e,by simp [e]⟩
  vk:=fun i _ _ hi=>by
   have e:i≠id:=fun h=>by subst h;rw [Sto.set_same] at hi;cases hi
   exact ⟨Sto.set_ne _ _ e,by simp [e]⟩
  lv:=fun i hi=>by
   have e:i≠id:=fun h=>by subst h;rw [Sto.set_same] at hi;simp [Obj.isL] at hi
   exact ⟨by simp [e],.inl (Sto.set_ne _ _ e)⟩}
theorem zCX {α:Type} (p:Int×α): ∀l:List (Int×α),(mins p l).Perm (p::l)
 | []=>List.Perm.refl _
 | q::r=>by
  simp only [mins];split
  ·exact List.Perm.refl _
  ·exact ((zCX p r).cons q).trans (List.Perm.swap p q r)
theorem zBg {α:Type}: ∀l:List (Int×α),(msort l).Perm l
 | []=>List.Perm.refl _
 | p::r=>(zCX p _).trans ((zBg r).cons p)
theorem RepT.freezeM {N N':Nat->Prop} {e:Ty} {xs:List (Int×e.den)} {u:Value} {G:List Nat} (hN: ∀b,N b->N' b) (hG: ∀k∈G,N' k) (h:RepT m N (.map e) xs [u] G):RepT m N' (.imap e) (msort xs) [u] []:=by
 obtain ⟨g,es,clock,h1,h2,h3,h4,h5,h6⟩:=h;exact ⟨rfl,g,es,clock,xs,h1,hG g (by rw [h5];simp),h2,h3,fun i h h'=>⟨(h4 i h h').1,RepT.mono (fun b hb=>⟨hN b hb,rfl⟩) (by simp) (h4 i h h').2⟩,h6,(zBg xs).symm⟩
theorem PrOK.freezeM {N:Nat->Prop} {s:Sto} {F:Nat->List Nat} (I:SInv m N s hd F size) {id v:Nat} {e:Ty} {xs:List (Int×e.den)} (he:e.isImm=true) (hs:s id=(v,.mapo e xs)) {lend:Bool}
  {m0:List Nat} {τ:Ty} {x:τ.den} {rest:List C} {u:Value} {vs:List Value} (h: ∀N',RepT m N' (.imap e) (msort xs) [hd id] []->RepT m N' τ x [u] []) (hr:RepCs m N s hd rest vs):
  PrOK lend m N s hd F size m0 τ x rest (s.set id (v,.omap)) (id::m0) (u::vs) [u] vs (fun k=>N k∨k∈F id) (fun i=>if i=id then [] else F i) []:=by
 have hob:=I.obj id;rw [hs] at hob;have h3:RepT m (fun k=>N k∨k∈F id) (.imap e) (msort xs) [hd id] []:=RepT.freezeM (fun b hb=> .inl hb) (fun k hk=> .inr hk) hob
 have hm: ∃g,hd id= .map (some g):=by
  obtain ⟨g,_,_,e1,_⟩:=hob;exact ⟨g,by simpa using e1⟩
 have h2:Goes s (s.set id ((s id).1,.omap)) hd hd:=Goes.set_like id _ (by simp [Obj.isV]) (by rw [hs];exact fun _=>rfl)
 have h1:SInv m (fun k=>N k∨k∈F id) (s.set id ((s id).1,.omap)) hd (fun i=>if i=id then [] else F i) size:=
  I.upd id _ [] (ql _) (fun b hb=>⟨.inl hb,rfl⟩) (fun k hk=>⟨hk.elim (I.ltN k) (I.ltF id k),fun i hi hki=>hk.elim (fun hk=>I.sep i k hki hk) (fun hk=>hi (I.once i id k hki hk)),by simp⟩) (fun _ _ _ _=>rfl) List.nodup_nil (by simp) h2 (fun _ _=>rfl) ⟨rfl,hm⟩
 have hv:(s id).1=v:=by rw [hs]
 rw [hv] at h1 h2;exact
 {vs:=rfl
  rep:=Sn.mono (h _ h3)
  rest:=RepCs.goes (fun b hb=>⟨.inl hb,rfl⟩) h2 hr
  inv:=h1
  goes:=h2
  vers:=fun i=>by
   by_cases e:i=id
   ·subst e;rw [Sto.set_same,hs]
   ·rw [Sto.set_ne _ _ e]
  up:=fun k hk=> .inl hk
  new:=fun k hk=>hk.imp (fun h=>h) (fun h=>⟨id,h⟩)
  sub:=fun i k hk=>by
   by_cases e:i=id
   ·simp [e] at hk
   ·simpa [e] using hk
  nod:=List.nodup_nil
  own:=by simp
  acc:=fun i hi=>qn _ hi
  loc:=fun i hi=>by
   have e:i≠id:=fun h=>hi (by rw [h];exact qv ..)
   exact ⟨Sto.set_ne _ _ e,by simp [e]⟩
  keep:=fun i hi=>by
   have e:i≠id:=fun h=>by subst h;rw [hs] at hi;simp [Obj.isL] at hi
   exact ⟨Sto.set_ne _ _ e,by simp [e]⟩
  vk:=fun i _ _ hi=>by
   have e:i≠id:=fun h=>by subst h;rw [Sto.set_same] at hi;cases hi
   exact ⟨Sto.set_ne _ _ e,by simp [e]⟩
  lv:=fun i hi=>by
   have e:i≠id:=fun h=>by subst h;rw [Sto.set_same] at hi;simp [Obj.isL] at hi
   exact ⟨by simp [e],.inl (Sto.set_ne _ _ e)⟩}
theorem PrOK.killM {N:Nat->Prop} {s:Sto} {F:Nat->List Nat} (I:SInv m N s hd F size) {id v:Nat} {e:Ty} {xs:List (Int×e.den)} (hs:s id=(v,.mapo e xs)) {lend:Bool} {m0:List Nat} {τ:Ty} {x:τ.den} {rest:List C} {u:Value} {vs:List Value}
  (h:RepT m N τ x [u] (F id)) (hr:RepCs m N s hd rest vs):
  PrOK lend m N s hd F size m0 τ x rest (s.set id (v,.omap)) (id::m0) (u::vs) [u] vs N (fun i=>if i=id then [] else F i) (F id):=by
 have hob:=I.obj id;rw [hs] at hob
 have hm: ∃g,hd id= .map (some g):=by
  obtain ⟨g,_,_,e1,_⟩:=hob;exact ⟨g,by simpa using e1⟩
 obtain ⟨h1,h2⟩:=zpB I id .omap (by simp [Obj.isV]) (by rw [hs];exact fun _=>rfl) (fun s'=>⟨rfl,hm⟩);have hv:(s id).1=v:=by rw [hs]
 rw [hv] at h1 h2;exact
 {vs:=rfl
  rep:=Sn.mono h
  rest:=RepCs.goes (fun b hb=>⟨hb,rfl⟩) h2 hr
  inv:=h1
  goes:=h2
  vers:=fun i=>by
   by_cases e:i=id
   ·subst e;rw [Sto.set_same,hs]
   ·rw [Sto.set_ne _ _ e]
  up:=fun k hk=>hk
  new:=fun k hk=> .inl hk
  sub:=fun i k hk=>by
   by_cases e:i=id
   ·simp [e] at hk
   ·simpa [e] using hk
  nod:=I.nodup id
  own:=fun k hk=>⟨⟨id,hk⟩,I.sep id k hk,fun i hi=>by
   by_cases e:i=id
   ·simp [e] at hi
   ·simp only [e,qe] at hi;exact e (I.once i id k hi hk)⟩
  acc:=fun i hi=>qn _ hi
  loc:=fun i hi=>by
   have e:i≠id:=fun h=>hi (by rw [h];exact qv ..)
   exact ⟨Sto.set_ne _ _ e,by simp [e]⟩
  keep:=fun i hi=>by
   have e:i≠id:=fun h=>by subst h;rw [hs] at hi;simp [Obj.isL] at hi
   exact ⟨Sto.set_ne _ _ e,by simp [e]⟩
  vk:=fun i _ _ hi=>by
   have e:i≠id:=fun h=>by subst h;rw [Sto.set_same] at hi;cases hi
   exact ⟨Sto.set_ne _ _ e,by simp [e]⟩
  lv:=fun i hi=>by
   have e:i≠id:=fun h=>by subst h;rw [Sto.set_same] at hi;simp [Obj.isL] at hi
   exact ⟨by simp [e],.inl (Sto.set_ne _ _ e)⟩}
theorem PrOK.killI {N:Nat->Prop} {s:Sto} {F:Nat->List Nat} (I:SInv m N s hd F size) {id v:Nat} {e:Ty} {xs:Option (Int×e.den)×List (Int×e.den)} (hs:s id=(v,.itero e xs)) {lend:Bool} {m0:List Nat} {τ:Ty} {x:τ.den} {rest:List C} {u:Value} {vs:List Value}
  (h:RepT m N τ x [u] (F id)) (hr:RepCs m N s hd rest vs):
  PrOK lend m N s hd F size m0 τ x rest (s.set id (v,.obox)) (id::m0) (u::vs) [u] vs N (fun i=>if i=id then [] else F i) (F id):=by
 have hob:=I.obj id;rw [hs] at hob
 have hm: ∃g,hd id= .pointer (some ⟨g,0,none⟩):=by
  obtain ⟨_,g,_,_,_,_,_,_,e1,_⟩:=hob;exact ⟨g,by simpa using e1⟩
 obtain ⟨h1,h2⟩:=zpB I id .obox (by simp [Obj.isV]) (by rw [hs];exact fun _=>rfl) (fun s'=>⟨rfl,hm⟩);have hv:(s id).1=v:=by rw [hs]
 rw [hv] at h1 h2;exact
 {vs:=rfl
  rep:=Sn.mono h
  rest:=RepCs.goes (fun b hb=>⟨hb,rfl⟩) h2 hr
  inv:=h1
  goes:=h2
  vers:=fun i=>by
   by_cases e:i=id
   ·subst e;rw [Sto.set_same,hs]
   ·rw [Sto.set_ne _ _ e]
  up:=fun k hk=>hk
  new:=fun k hk=> .inl hk
  sub:=fun i k hk=>by
   by_cases e:i=id
   ·simp [e] at hk
   ·simpa [e] using hk
  nod:=I.nodup id
  own:=fun k hk=>⟨⟨id,hk⟩,I.sep id k hk,fun i hi=>by
   by_cases e:i=id
   ·simp [e] at hi
   ·simp only [e,qe] at hi;exact e (I.once i id k hi hk)⟩
  acc:=fun i hi=>qn _ hi
  loc:=fun i hi=>by
   have e:i≠id:=fun h=>hi (by rw [h];exact qv ..)
   exact ⟨Sto.set_ne _ _ e,by simp [e]⟩
  keep:=fun i hi=>by
   have e:i≠id:=fun h=>by subst h;rw [hs] at hi;simp [Obj.isL] at hi
   exact ⟨Sto.set_ne _ _ e,by simp [e]⟩
  vk:=fun i _ _ hi=>by
   have e:i≠id:=fun h=>by subst h;rw [Sto.set_same] at hi;cases hi
   exact ⟨Sto.set_ne _ _ e,by simp [e]⟩
  lv:=fun i hi=>by
   have e:i≠id:=fun h=>by subst h;rw [Sto.set_same] at hi;simp [Obj.isL] at hi
   exact ⟨by simp [e],.inl (Sto.set_ne _ _ e)⟩}
theorem PrOK.killS {N:Nat->Prop} {s:Sto} {F:Nat->List Nat} (I:SInv m N s hd F size) {id v:Nat} {T te:Nat} {xs:List UInt8} (hs:s id=(v,.sbo T te xs)) {lend:Bool} {m0:List Nat} {τ:Ty} {x:τ.den} {rest:List C} {u:Value} {vs:List Value}
  (h:RepT m N τ x [u] (F id)) (hr:RepCs m N s hd rest vs):
  PrOK lend m N s hd F size m0 τ x rest (s.set id (v,.obox)) (id::m0) (u::vs) [u] vs N (fun i=>if i=id then [] else F i) (F id):=by
 have hob:=I.obj id;rw [hs] at hob
 have hm: ∃g,hd id= .pointer (some ⟨g,0,none⟩):=by
  obtain ⟨g,_,_,_,e1,_⟩:=hob;exact ⟨g,by simpa using e1⟩
 obtain ⟨h1,h2⟩:=zpB I id .obox (by simp [Obj.isV]) (by rw [hs];exact fun _=>rfl) (fun s'=>⟨rfl,hm⟩);have hv:(s id).1=v:=by rw [hs]
 rw [hv] at h1 h2;exact
 {vs:=rfl
  rep:=Sn.mono h
  rest:=RepCs.goes (fun b hb=>⟨hb,rfl⟩) h2 hr
  inv:=h1
  goes:=h2
  vers:=fun i=>by
   by_cases e:i=id
   ·subst e;rw [Sto.set_same,hs]
   ·rw [Sto.set_ne _ _ e]
  up:=fun k hk=>hk
  new:=fun k hk=> .inl hk
  sub:=fun i k hk=>by
   by_cases e:i=id
   ·simp [e] at hk
   ·simpa [e] using hk
  nod:=I.nodup id
  own:=fun k hk=>⟨⟨id,hk⟩,I.sep id k hk,fun i hi=>by
   by_cases e:i=id
   ·simp [e] at hi
   ·simp only [e,qe] at hi;exact e (I.once i id k hi hk)⟩
  acc:=fun i hi=>qn _ hi
  loc:=fun i hi=>by
   have e:i≠id:=fun h=>hi (by rw [h];exact qv ..)
   exact ⟨Sto.set_ne _ _ e,by simp [e]⟩
  keep:=fun i hi=>by
   have e:i≠id:=fun h=>by subst h;rw [hs] at hi;simp [Obj.isL] at hi
   exact ⟨Sto.set_ne _ _ e,by simp [e]⟩
  vk:=fun i _ _ hi=>by
   have e:i≠id:=fun h=>by subst h;rw [Sto.set_same] at hi;cases hi
   exact ⟨Sto.set_ne _ _ e,by simp [e]⟩
  lv:=fun i hi=>by
   have e:i≠id:=fun h=>by subst h;rw [Sto.set_same] at hi;simp [Obj.isL] at hi
   exact ⟨by simp [e],.inl (Sto.set_ne _ _ e)⟩}
theorem zuR {s:Sto} {e:Ty} {xs:List e.den} {i:Nat} {x:e.den} {off id' ver':Nat} {ys:List e.den} {s':Sto} (h:fillK s e xs i x off id' ver'=some (ys,s')):
  ∃(σ:Ty) (zs:List σ.den) (x':e.den),s id'=(ver',.vec σ zs)∧setAt e x off σ zs=some x'∧ys=xs.set i x'∧s'=s.set id' (ver',.ovec σ zs):=by
 unfold fillK at h;split at h
 ·rename_i v σ zs hs;split at h
  ·rename_i hv;subst hv;split at h
   ·rename_i x' hx';simp only [qI,qU] at h;obtain ⟨rfl,rfl⟩:=h;exact ⟨σ,zs,x',hs,hx',rfl,rfl⟩
   ·cases h
  ·cases h
 ·cases h
theorem zor {s:Sto} {e:Ty} {xs:List e.den} {i:Nat} {x:e.den} {off id' ver':Nat} {ys:List e.den} {s':Sto} (h:fillK s e xs i x off id' ver'=some (ys,s')): ∀j,j≠id'->s' j=s j:=by
 obtain ⟨σ,zs,x',_,_,_,rfl⟩:=zuR h;exact fun j hj=>Sto.set_ne _ _ hj
theorem zAk {s:Sto} {e:Ty} {xs:List e.den} {i:Nat} {x:e.den} {off id' ver':Nat} {ys:List e.den} {s':Sto} (h:fillK s e xs i x off id' ver'=some (ys,s')) {s2:Sto} (h2:s2 id'=s id'): ∃s2',fillK s2 e xs i x off id' ver'=some (ys,s2')∧s2' id'=s' id'∧ ∀j,j≠id'->s2' j=s2 j:=by
 obtain ⟨σ,zs,x',h3,h5,h6,h7⟩:=zuR h;refine ⟨s2.set id' (ver',.ovec σ zs),?_,?_,fun j hj=>Sto.set_ne _ _ hj⟩
 ·unfold fillK;rw [h2,h3];simp only [qf,h5,h6]
 ·rw [h7,Sto.set_same,Sto.set_same]
theorem zCz {N:Nat->Prop} {s:Sto} {F:Nat->List Nat} (I:SInv m N s hd F size) {id v i off id' ver':Nat} {e:Ty} {xs ys:List e.den} {x0:e.den} {s':Sto} (hs:s id=(v,.hvec e xs i x0 off id' ver')) (hne:id'≠id) (hf:fillK s e xs i x0 off id' ver'=some (ys,s')):
  (∃Fa Fb,F id=Fa++Fb∧RepT m N (.own e) ys [hd id] (Fa++(F id'++Fb)))∧List.length ys=List.length xs∧SInv m N s' hd (fun j=>if j=id' then [] else F j) size∧Goes s s' hd hd∧(∀j,(s' j).1=(s j).1)∧s' id=s id∧(∃g cap,hd id= .slice (some ⟨g,0,none⟩) (List.length ys) cap):=by
 obtain ⟨σ,zs,x',h3,h5,rfl,rfl⟩:=zuR hf;have hob:=I.obj id;rw [hs] at hob;obtain ⟨v0,Fa,Fb,k1,k2,k3,⟨g,cap,k4⟩,k5⟩:=hob;have hob':=I.obj id';rw [h3] at hob';have hv0:v0=hd id':=k2.2.2 (by rw [h3]) (by rw [h3];rfl);subst hv0;have hr:=k5 m N (fun b hb=>⟨hb,rfl⟩) (fun _ _=>rfl) σ zs (F id') x' hob' h5;obtain ⟨o1,o2⟩:=zpB I id' (.ovec σ zs) (by rw [h3];exact fun _=>⟨rfl,rfl,ql _⟩) (by simp [Obj.isB]) (fun s'=>⟨rfl,RepT.own_len hob'⟩);have hv':(s id').1=ver':=by rw [h3]
 rw [hv'] at o1 o2;refine ⟨⟨Fa,Fb,k3,hr⟩,by simp,o1,o2,fun j=>?_,Sto.set_ne _ _ (fun h=>hne h.symm),g,cap,by rw [k4];simp⟩;by_cases e:j=id'
 ·subst e;rw [Sto.set_same,h3]
 ·rw [Sto.set_ne _ _ e]
theorem zGY {N:Nat->Prop} {s:Sto} {F:Nat->List Nat} (I:SInv m N s hd F size) {id v i off id' ver':Nat} {e:Ty} {xs ys:List e.den} {x0:e.den} {s':Sto} (hs:s id=(v,.hvec e xs i x0 off id' ver')) (hne:id'≠id) (hf:fillK s e xs i x0 off id' ver'=some (ys,s')):
  ∃F':Nat->List Nat,SInv m N (s'.set id (v,.vec e ys)) hd F' size∧Goes s (s'.set id (v,.vec e ys)) hd hd∧ ∀j k,k∈F' j-> ∃i,k∈F i:=by
 obtain ⟨⟨Fa,Fb,hF,hrep⟩,hlen,J,g1,hvv,hid2,g0,cap0,hh⟩:=zCz I hs hne hf;have hidx:s' id=(v,.hvec e xs i x0 off id' ver'):=by rw [hid2,hs]
 have gw:Goes s' (s'.set id (v,.vec e ys)) hd hd:=by
  have:=Goes.set_like (s:=s') (hd:=hd) id (.vec e ys) (fun _=>by rw [hidx];exact ⟨rfl,rfl,by show List.length xs<=List.length ys;omega⟩) (by simp [Obj.isB])
  rwa [hidx] at this
 have hnd1:=I.nodup id;rw [hF] at hnd1;have n1:=qN.1 hnd1
 have hmem: ∀k,k∈Fa++(F id'++Fb)->k∈F id∨k∈F id':=by
  intro k hk;rcases qr.1 hk with hk | hk
  ·exact .inl (by rw [hF];exact qw _ hk)
  ·rcases qr.1 hk with hk | hk
   ·exact .inr hk
   ·exact .inl (by rw [hF];exact qB _ hk)
 have J2:=J.upd (N':=N) (m':=m) (hd':=hd) id (v,.vec e ys) (Fa++(F id'++Fb)) (ql _) (fun b hb=>⟨hb,rfl⟩) (fun k hk=>⟨I.ltN k hk,fun j _ hj=>J.sep j k hj hk,fun h=>by
   rcases hmem k h with h | h
   ·exact I.sep id k h hk
   ·exact I.sep id' k h hk⟩) (fun _ _ _ _=>rfl) (by
   rw [qN];refine ⟨n1.1,?_,fun p hp q hq epq=>?_⟩
   ·rw [qN];refine ⟨I.nodup id',n1.2.1,fun p hp q hq epq=>?_⟩;subst epq;exact hne (I.once id' id p hp (by rw [hF];exact qB _ hq))
   ·subst epq;rcases qr.1 hq with hq | hq
    ·exact hne (I.once id' id p hq (by rw [hF];exact qw _ hp))
    ·exact n1.2.2 p hp p hq rfl) (fun k hk=>⟨by
   rcases hmem k hk with h | h
   ·exact I.ltF id k h
   ·exact I.ltF id' k h,fun j hj hk'=>by
   by_cases e4:j=id'
   ·simp [e4] at hk'
   ·simp only [e4,qe] at hk';rcases hmem k hk with h | h
    ·exact hj (I.once j id k hk' h)
    ·exact e4 (I.once j id' k hk' h)⟩) gw (fun _ _=>rfl) hrep
 refine ⟨_,J2,g1.trans gw,fun j k hk=>?_⟩;by_cases e4:j=id
 ·simp only [e4,qf] at hk;rcases hmem k hk with h | h
  ·exact ⟨_,h⟩
  ·exact ⟨_,h⟩
 ·simp only [e4,qe] at hk;by_cases e5:j=id'
  ·simp [e5] at hk
  ·simp only [e5,qe] at hk;exact ⟨j,hk⟩
theorem PrOK.fill {N:Nat->Prop} {s:Sto} {F:Nat->List Nat} (I:SInv m N s hd F size) {id v i off id' ver':Nat} {e:Ty} {xs ys:List e.den} {x0:e.den} {s':Sto} (hs:s id=(v,.hvec e xs i x0 off id' ver')) (hne:id'≠id) (hf:fillK s e xs i x0 off id' ver'=some (ys,s')) {lend:Bool} {m0:List Nat} {τ:Ty} {x:τ.den} {rest:List C} {u:Value} {vs:List Value}
  (h: ∀G,RepT m N (.own e) ys [hd id] G->RepT m N τ x [u] G) (hr:RepCs m N s hd rest vs):
  ∃F' G,PrOK lend m N s hd F size m0 τ x rest (s'.set id (v,.ovec e ys)) (id::id'::m0) (u::vs) [u] vs N F' G:=by
 obtain ⟨⟨Fa,Fb,hF,hrep⟩,hlen,J,g1,hv,hid,g0,cap0,hh⟩:=zCz I hs hne hf;obtain ⟨σ,zs,x',h3,_,_,hs'⟩:=zuR hf;obtain ⟨h1,h2⟩:=zpB J id (.ovec e ys) (by rw [hid,hs];exact fun _=>⟨rfl,rfl,by show List.length xs<=List.length ys;omega⟩) (by simp [Obj.isB]) (fun s'=>⟨rfl,RepT.own_len hrep⟩);have hv1:(s' id).1=v:=by rw [hid,hs]
 rw [hv1] at h1 h2
 have hFin: ∀k,k∈Fa++(F id'++Fb)↔k∈F id∨k∈F id':=by
  intro k;rw [hF];simp only [qr];constructor
  ·rintro (h | h | h)
   ·exact .inl (.inl h)
   ·exact .inr h
   ·exact .inl (.inr h)
  ·rintro ((h | h) | h)
   ·exact .inl h
   ·exact .inr (.inr h)
   ·exact .inr (.inl h)
 have hnd:(Fa++(F id'++Fb)).Nodup:=by
  have n1:=I.nodup id;have n2:=I.nodup id';rw [hF,qN] at n1;rw [qN];refine ⟨n1.1,?_,fun a ha b hb e=>?_⟩
  ·rw [qN];refine ⟨n2,n1.2.1,fun a ha b hb e=>?_⟩;subst e;exact hne (I.once id' id a ha (by rw [hF];exact qB _ hb))
  ·subst e;rcases qr.1 hb with hb | hb
   ·exact hne (I.once id' id a hb (by rw [hF];exact qw _ ha))
   ·exact n1.2.2 a ha a hb rfl
 refine ⟨fun j=>if j=id then [] else if j=id' then [] else F j,Fa++(F id'++Fb),?_⟩;exact
 {vs:=rfl
  rep:=Sn.mono (h _ hrep)
  rest:=RepCs.goes (fun b hb=>⟨hb,rfl⟩) (g1.trans h2) hr
  inv:=h1
  goes:=g1.trans h2
  vers:=fun j=>by
   by_cases e:j=id
   ·subst e;rw [Sto.set_same,hs]
   ·rw [Sto.set_ne _ _ e];exact hv j
  up:=fun k hk=>hk
  new:=fun k hk=> .inl hk
  sub:=fun j k hk=>by
   by_cases e:j=id
   ·simp [e] at hk
   ·by_cases e':j=id'
    ·subst e';simp at hk
    ·simpa [e,e'] using hk
  nod:=hnd
  own:=fun k hk=>by
   rcases (hFin k).1 hk with hk | hk
   ·exact ⟨⟨id,hk⟩,I.sep id k hk,fun j hj=>by
     by_cases e:j=id
     ·simp [e] at hj
     ·by_cases e':j=id'
      ·subst e';simp at hj
      ·simp only [e,e',qe] at hj;exact e (I.once j id k hj hk)⟩
   ·exact ⟨⟨id',hk⟩,I.sep id' k hk,fun j hj=>by
     by_cases e:j=id
     ·simp [e] at hj
     ·by_cases e':j=id'
      ·subst e';simp at hj
      ·simp only [e,e',qe] at hj;exact e' (I.once j id' k hj hk)⟩
  acc:=fun j hj=>qn _ (qn _ hj)
  loc:=fun j hj=>by
   have e:j≠id:=fun h=>hj (by rw [h];exact qv ..)
   have e':j≠id':=fun h=>hj (by rw [h];exact qn _ (qv ..))
   exact ⟨(Sto.set_ne _ _ e).trans (zor hf j e'),by simp [e,e']⟩
  keep:=fun j hj=>by
   have e:j≠id:=fun h=>by subst h;rw [hs] at hj;simp [Obj.isL] at hj
   have e':j≠id':=fun h=>by subst h;rw [h3] at hj;simp [Obj.isL] at hj
   exact ⟨(Sto.set_ne _ _ e).trans (zor hf j e'),by simp [e,e']⟩
  vk:=fun j _ _ hj=>by
   have e:j≠id:=fun h=>by subst h;rw [Sto.set_same] at hj;cases hj
   rw [Sto.set_ne _ _ e] at hj;have e':j≠id':=fun h=>by subst h;rw [hs',Sto.set_same] at hj;cases hj
   exact ⟨(Sto.set_ne _ _ e).trans (zor hf j e'),by simp [e,e']⟩
  lv:=fun j hj=>by
   have e:j≠id:=fun h=>by subst h;rw [Sto.set_same] at hj;simp [Obj.isL] at hj
   rw [Sto.set_ne _ _ e] at hj;have e':j≠id':=fun h=>by subst h;rw [hs',Sto.set_same] at hj;simp [Obj.isL] at hj
   exact ⟨by simp [e,e'],.inl ((Sto.set_ne _ _ e).trans (zor hf j e'))⟩}
theorem PrOK.seq {N:Nat->Prop} {s:Sto} {F:Nat->List Nat} {m0 m1 m2:List Nat} {a r:Ty} {x:a.den} {y:r.den} {rest rest':List C} {s1 s2:Sto} {vs v1 v2 u1 u2:List Value} {N1 N2:Nat->Prop} {F1 F2:Nat->List Nat} {G1 G2:List Nat}
  {lend:Bool} (h1:PrOK lend m N s hd F size m0 a x rest s1 m1 vs v1 v2 N1 F1 G1) (h2:PrOK lend m N1 s1 hd F1 size m1 r y rest' s2 m2 v2 u1 u2 N2 F2 G2):
  PrOK lend m N s hd F size m0 (.cons a r) (x,y) rest' s2 m2 vs (v1++u1) u2 N2 F2 (G1++G2) where
 vs:=by rw [h1.vs,h2.vs,qE]
 rep:=⟨v1,u1,G1,G2,rfl,rfl,RepT.mono (fun b hb=>⟨Sn.go h2.up h2.keep hb,rfl⟩) (fun _ _=>rfl) h1.rep,h2.rep⟩
 rest:=h2.rest
 inv:=h2.inv
 goes:=h1.goes.trans h2.goes
 vers:=fun i=>(h2.vers i).trans (h1.vers i)
 up:=fun k hk=>h2.up k (h1.up k hk)
 new:=fun k hk=>by
  rcases h2.new k hk with h | ⟨i,h⟩
  ·exact h1.new k h
  ·exact .inr ⟨i,h1.sub i k h⟩
 sub:=fun i k hk=>h1.sub i k (h2.sub i k hk)
 nod:=by
  rw [qN];refine ⟨h1.nod,h2.nod,fun k hk k' hk' e=>?_⟩;subst e;obtain ⟨⟨i,hi⟩,_⟩:=h2.own k hk';exact (h1.own k hk).2.2 i hi
 own:=fun k hk=>by
  rcases qr.1 hk with hk | hk
  ·refine ⟨(h1.own k hk).1,fun hn=>?_,fun i hi=>(h1.own k hk).2.2 i (h2.sub i k hi)⟩;rcases h2.new k hn with h | ⟨i,h⟩
   ·exact (h1.own k hk).2.1 h
   ·exact (h1.own k hk).2.2 i h
  ·obtain ⟨⟨i,hi⟩,h3,h4⟩:=h2.own k hk;exact ⟨⟨i,h1.sub i k hi⟩,h3,h4⟩
 acc:=fun i hi=>h2.acc i (h1.acc i hi)
 loc:=fun i hi=>by
  have hi1:i∉m1:=fun h=>hi (h2.acc i h)
  exact ⟨(h2.loc i hi).1.trans (h1.loc i hi1).1,(h2.loc i hi).2.trans (h1.loc i hi1).2⟩
 keep:=fun i hi=>by
  have k1:=h1.keep i hi;have k2:=h2.keep i (by rw [k1.1];exact hi);exact ⟨k2.1.trans k1.1,k2.2.trans k1.2⟩
 vk:=fun i e xs hi=>by
  have k2:=h2.vk i e xs hi;have k1:=h1.vk i e xs (by rw [<-k2.1];exact hi);exact ⟨k2.1.trans k1.1,k2.2.trans k1.2⟩
 lv:=fun i hi=>by
  obtain ⟨e2,h⟩:=h2.lv i hi;rcases h with h | ⟨e,xs,h3,h4⟩
  ·obtain ⟨e1,h'⟩:=h1.lv i (by rw [<-h];exact hi);rcases h' with h' | ⟨e,xs,h3,h4⟩
   ·exact ⟨e2.trans e1,.inl (h.trans h')⟩
   ·exact ⟨e2.trans e1,.inr ⟨e,xs,by rw [h,h3],h4⟩⟩
  ·obtain ⟨q1,q2⟩:=h1.vk i e xs h4;exact ⟨e2.trans q2,.inr ⟨e,xs,by rw [h3,q1],by rw [<-q1];exact h4⟩⟩
theorem RepCs.nil_inv {N:Nat->Prop} {s:Sto} {vs:List Value} (h:RepCs m N s hd [] vs):vs= []:=by
 cases vs with
 | nil=>rfl
 | cons _ _=>exact h.elim
theorem PrOK.box {N:Nat->Prop} {s:Sto} {F:Nat->List Nat} (I:SInv m N s hd F size) {id v:Nat} {ds:List C} (hs:s id=(v,.box ds)) {e:Ty} {x:e.den} {s':Sto} {m':List Nat}
  (ih: ∀ {vs:List Value},RepCs m N s hd ds vs-> ∃v1 v2 N' F' G,PrOK false m N s hd F size [] e x [] s' m' vs v1 v2 N' F' G) (hid:id∉m') {lend:Bool} {m0:List Nat} {rest:List C} {u:Value} {vs:List Value}
  (hu:RepC m N s hd (.bp id v 0) u) (hr:RepCs m N s hd rest vs):
  ∃N' F' G,PrOK lend m N s hd F size m0 (.box e) x rest (s'.set id (v,.obox)) (id::(m'++m0)) (u::vs) [u] vs N' F' G:=by
 have hob:=I.obj id;rw [hs] at hob;obtain ⟨g,vsb,T,hg,hc,hcs,hF⟩:=hob;obtain ⟨v1,v2,N',F',G,h⟩:=ih hcs;have hv2:=RepCs.nil_inv h.rest;have hvs:=h.vs;rw [hv2,qP] at hvs;subst hvs;have hsv:(s id).1=v:=by rw [hs]
 obtain ⟨_,_,hu⟩:=hu;obtain ⟨g',e1,e2⟩:=hu hsv (by rw [hs];rfl);rw [hg] at e1;injection e1 with e1;injection e1 with e1;injection e1 with e1
 subst e1;have hs':s' id=(v,.box ds):=by rw [(h.loc id hid).1,hs]
 have hF':F' id= [g]:=by rw [(h.loc id hid).2,hF]
 obtain ⟨k1,k2⟩:=zpB h.inv id .obox (by simp [Obj.isV]) (by rw [hs'];exact fun _=>rfl) (fun s'=>⟨rfl,g,hg⟩);have hsv':(s' id).1=v:=by rw [hs']
 rw [hsv'] at k1 k2;refine ⟨N',fun i=>if i=id then [] else F' i,g::G,?_⟩;exact
 {vs:=rfl
  rep:=Sn.mono (N:=N') ⟨g,vsb,T,G,by rw [e2],hc,h.rep,rfl⟩
  rest:=RepCs.goes (fun b hb=>⟨h.up b hb,rfl⟩) (h.goes.trans k2) hr
  inv:=k1
  goes:=h.goes.trans k2
  vers:=fun i=>by
   by_cases e:i=id
   ·subst e;rw [Sto.set_same,hs]
   ·rw [Sto.set_ne _ _ e];exact h.vers i
  up:=h.up
  new:=h.new
  sub:=fun i k hk=>by
   by_cases e:i=id
   ·simp [e] at hk
   ·simp only [e,qe] at hk;exact h.sub i k hk
  nod:=by
   refine List.nodup_cons.2 ⟨fun hG=>(h.own g hG).2.2 id (by rw [hF'];simp),h.nod⟩
  own:=fun k hk=>by
   rcases qz.1 hk with rfl | hk
   ·refine ⟨⟨id,by rw [hF];simp⟩,h.inv.sep id k (by rw [hF'];simp),fun i hi=>?_⟩;by_cases e:i=id
    ·simp [e] at hi
    ·simp only [e,qe] at hi;exact e (h.inv.once i id k hi (by rw [hF'];simp))
   ·obtain ⟨a1,a2,a3⟩:=h.own k hk;refine ⟨a1,a2,fun i hi=>?_⟩;by_cases e:i=id
    ·simp [e] at hi
    ·simp only [e,qe] at hi;exact a3 i hi
  acc:=fun i hi=>qn _ (qB _ hi)
  loc:=fun i hi=>by
   have e:i≠id:=fun h=>hi (by rw [h];exact qv ..)
   have hi':i∉m':=fun h=>hi (qn _ (qw _ h))
   exact ⟨(Sto.set_ne _ _ e).trans (h.loc i hi').1,by simp only [e,qe];exact (h.loc i hi').2⟩
  keep:=fun i hi=>by
   have e:i≠id:=fun h=>by subst h;rw [hs] at hi;simp [Obj.isL] at hi
   have k:=h.keep i hi;exact ⟨(Sto.set_ne _ _ e).trans k.1,by simp only [e,qe];exact k.2⟩
  vk:=fun i e' xs hi=>by
   have e:i≠id:=fun h=>by subst h;rw [Sto.set_same] at hi;cases hi
   rw [Sto.set_ne _ _ e] at hi;have k:=h.vk i e' xs hi;exact ⟨(Sto.set_ne _ _ e).trans k.1,by simp only [e,qe];exact k.2⟩
  lv:=fun i hi=>by
   have e:i≠id:=fun h=>by subst h;rw [Sto.set_same] at hi;simp [Obj.isL] at hi
   rw [Sto.set_ne _ _ e] at hi ⊢;simp only [e,qe];exact h.lv i hi}
theorem PrOK.ptr {N:Nat->Prop} {s:Sto} {F:Nat->List Nat} (I:SInv m N s hd F size) {id v:Nat} {ds:List C} (hs:s id=(v,.box ds)) {e:Ty} {x:e.den} {s':Sto} {m':List Nat} (he:e.isImm=true)
  (ih: ∀ {vs:List Value},RepCs m N s hd ds vs-> ∃v1 v2 N' F' G,PrOK false m N s hd F size [] e x [] s' m' vs v1 v2 N' F' G) (hid:id∉m') {lend:Bool} {m0:List Nat} {rest:List C} {u:Value} {vs:List Value}
  (hu:RepC m N s hd (.bp id v 0) u) (hr:RepCs m N s hd rest vs):
  ∃N' F' G,PrOK lend m N s hd F size m0 (.ptr e) x rest (s'.set id (v,.fbox e x)) (id::(m'++m0)) (u::vs) [u] vs N' F' G:=by
 have hob:=I.obj id;rw [hs] at hob;obtain ⟨g,vsb,T,hg,hc,hcs,hF⟩:=hob;obtain ⟨v1,v2,N',F',G,h⟩:=ih hcs;have hv2:=RepCs.nil_inv h.rest;have hvs:=h.vs;rw [hv2,qP] at hvs;subst hvs;have hsv:(s id).1=v:=by rw [hs]
 obtain ⟨_,_,hu⟩:=hu;obtain ⟨g',e1,e2⟩:=hu hsv (by rw [hs];rfl);rw [hg] at e1;injection e1 with e1;injection e1 with e1;injection e1 with e1
 subst e1;have hs':s' id=(v,.box ds):=by rw [(h.loc id hid).1,hs]
 have hF':F' id= [g]:=by rw [(h.loc id hid).2,hF]
 have hsv':(s' id).1=v:=by rw [hs']
 have hG:G= []:=RepT.imm he h.rep;subst hG
 have hgo:Goes s' (s'.set id (v,.fbox e x)) hd hd:=by
  have:=Goes.set_like (s:=s') (hd:=hd) id (.fbox e x) (by simp [Obj.isV]) (by rw [hs'];simp [Obj.isB])
  rwa [hsv'] at this
 let N2:Nat->Prop:=fun k=>N' k∨k=g
 have hrep:RepT m N2 (.ptr e) x [.pointer (some ⟨g,0,none⟩)] []:=
  ⟨rfl,g,0,vsb,rfl,.inr rfl,RepT.mono (fun b hb=>⟨.inl hb,rfl⟩) (by simp) h.rep,⟨vsb⟩,T,(0,0),hc,fun j w hj=>by simpa using hj⟩
 have hinv:=h.inv.upd (N':=N2) (hd':=hd) id (v,.fbox e x) [] (ql _) (fun b hb=>⟨.inl hb,rfl⟩) (fun k hk=>by
   rcases hk with hk | rfl
   ·exact ⟨h.inv.ltN k hk,fun i _ hi=>h.inv.sep i k hi hk,by simp⟩
   ·exact ⟨h.inv.ltF id k (by rw [hF'];simp),fun i hi hk=>hi (h.inv.once i id k hk (by rw [hF'];simp)),by simp⟩)
  (fun _ _ _ _=>rfl) List.nodup_nil (by simp) hgo (fun _ _=>rfl) (by
   refine ⟨rfl,?_,g,hg⟩;rw [hg];exact hrep)
 refine ⟨N2,fun i=>if i=id then [] else F' i,[],?_⟩;exact
 {vs:=rfl
  rep:=by rw [e2];exact Sn.mono hrep
  rest:=RepCs.goes (fun b hb=>⟨.inl (h.up b hb),rfl⟩) (h.goes.trans hgo) hr
  inv:=hinv
  goes:=h.goes.trans hgo
  vers:=fun i=>by
   by_cases e:i=id
   ·subst e;rw [Sto.set_same,hs]
   ·rw [Sto.set_ne _ _ e];exact h.vers i
  up:=fun k hk=> .inl (h.up k hk)
  new:=fun k hk=>by
   rcases hk with hk | rfl
   ·exact h.new k hk
   ·exact .inr ⟨id,by rw [hF];simp⟩
  sub:=fun i k hk=>by
   by_cases e:i=id
   ·simp [e] at hk
   ·simp only [e,qe] at hk;exact h.sub i k hk
  nod:=List.nodup_nil
  own:=by simp
  acc:=fun i hi=>qn _ (qB _ hi)
  loc:=fun i hi=>by
   have e:i≠id:=fun h=>hi (by rw [h];exact qv ..)
   have hi':i∉m':=fun h=>hi (qn _ (qw _ h))
   exact ⟨(Sto.set_ne _ _ e).trans (h.loc i hi').1,by simp only [e,qe];exact (h.loc i hi').2⟩
  keep:=fun i hi=>by
   have e:i≠id:=fun h=>by subst h;rw [hs] at hi;simp [Obj.isL] at hi
   have k:=h.keep i hi;exact ⟨(Sto.set_ne _ _ e).trans k.1,by simp only [e,qe];exact k.2⟩
  vk:=fun i e' xs hi=>by
   have e:i≠id:=fun h=>by subst h;rw [Sto.set_same] at hi;cases hi
   rw [Sto.set_ne _ _ e] at hi;have k:=h.vk i e' xs hi;exact ⟨(Sto.set_ne _ _ e).trans k.1,by simp only [e,qe];exact k.2⟩
  lv:=fun i hi=>by
   have e:i≠id:=fun h=>by subst h;rw [Sto.set_same] at hi;simp [Obj.isL] at hi
   rw [Sto.set_ne _ _ e] at hi ⊢;simp only [e,qe];exact h.lv i hi}
theorem RepC.own_hd {N:Nat->Prop} {s:Sto} {id v:Nat} {o:Obj} {u:Value} (h:RepC m N s hd (.own id v) u) (hs:s id=(v,o)) (ho:o.isV=true):u=hd id:=
 h.2.2 (by rw [hs]) (by rw [hs];exact ho)
theorem RepC.sub_hd {N:Nat->Prop} {s:Sto} {id v lo hi:Nat} {o:Obj} {u:Value} (h:RepC m N s hd (.sub id v lo hi) u) (hs:s id=(v,o)) (ho:o.isV=true):u=subV (hd id) o.esz lo hi∧lo<=hi∧hi<=o.vlen:=by
 have:=h.2.2 (by rw [hs]) (by rw [hs];exact ho)
 rwa [hs] at this
theorem zLW {N:Nat->Prop} {s:Sto} {F:Nat->List Nat} (I:SInv m N s hd F size) {m0:List Nat} {τ:Ty} {cs:List C} {q:Pr τ.den}
  (h:(match cs with
   | .imm σ x::r=>if h:σ=τ then some ({x:=castDen h x,rest:=r,s:=s,m:=m0}:Pr τ.den) else none
   | _=>none)=some q) {vs:List Value} (hcs:RepCs m N s hd cs vs) {lend:Bool}: ∃v1 v2 N' F' G,PrOK lend m N s hd F size m0 τ q.x q.rest q.s q.m vs v1 v2 N' F' G:=by
 cases cs with
 | nil=>cases h
 | cons c r=>
  cases c with
  | imm σ x=>
   simp only at h;split at h
   ·rename_i hσ
    cases vs with
    | nil=>exact hcs.elim
    | cons v vs=>
     obtain rfl:=qh h;exact ⟨[v],vs,N,F,[],PrOK.same I (zam hσ hcs.1) hcs.2 (fun _ h=>h)⟩
   ·cases h
  | _=>cases h
theorem RepT.ints {N:Nat->Prop} {l:List Int} {v:Value} (h:RepT m N (.sl (.int .i64)) l [v] []):RepInts m N l v:=by
 obtain ⟨_,a,cap,es,e1,hc,hes,hr,hm⟩:=h
 have he:es=l.map fun x=> [Value.int .i64 x]:=by
  apply List.ext_getElem (by simpa using hes);intro i h1 h2;have:=(hr i (by omega) h1).1;simpa using this
 refine ⟨a,cap,by simpa using e1,hc,fun hn=>?_⟩;obtain ⟨b,off,ea,hb,hcell⟩:=hm hn;refine ⟨b,off,ea,hb,?_⟩;rw [he] at hcell
 have hf: ∀l:List Int,(l.map fun x=> [Value.int IntKind.i64 x]).flatten=l.map (Value.int .i64):=by
  intro l
  induction l with
  | nil=>rfl
  | cons x l ih=>simp [ih]
 rwa [hf] at hcell
theorem RepInts.rep {N:Nat->Prop} {l:List Int} {v:Value} (h:RepInts m N l v):RepT m N (.sl (.int .i64)) l [v] []:=by
 obtain ⟨a,cap,e1,hc,hm⟩:=h
 have hf: ∀l:List Int,(l.map fun x=> [Value.int IntKind.i64 x]).flatten=l.map (Value.int .i64):=by
  intro l
  induction l with
  | nil=>rfl
  | cons x l ih=>simp [ih]
 refine ⟨rfl,a,cap,l.map fun x=> [Value.int .i64 x],by rw [e1],hc,by simp,fun i h1 h2=>⟨by simp,rfl⟩,fun hn=>?_⟩;obtain ⟨b,off,ea,hb,hcell⟩:=hm hn;exact ⟨b,off,ea,hb,by rw [hf];exact hcell⟩
theorem RepT.trees {N:Nat->Prop} {kids:List Tree} {v:Value} (h:RepT m N (.sl .tree) kids [v] []):
  ∃a cap kvs,v= .slice a kids.length cap∧kids.length<=cap∧List.length kvs=kids.length∧(∀(i:Nat) (h:i<kids.length) (h':i<kvs.length),RepTree m N kids[i] kvs[i])∧(kids≠ []-> ∃b off,a=some ⟨b,off,none⟩∧N b∧cellsIn m b off kvs):=by
 obtain ⟨_,a,cap,es,e1,hc,hes,hr,hm⟩:=h;have h1: ∀(i:Nat) (h:i<List.length kids) (h':i<es.length),∃u,es[i]= [u]∧RepTree m N kids[i] u:=fun i h h'=>(hr i h h').2
 have h2: ∀(es:List (List Value)),(∀e∈es,∃u,e= [u])-> ∃us:List Value,es=us.map fun u=> [u]:=by
  intro es
  induction es with
  | nil=>intro _;exact ⟨[],rfl⟩
  | cons e es ih=>
   intro h;obtain ⟨u,rfl⟩:=h e (by simp);obtain ⟨us,rfl⟩:=ih (fun e he=>h e (qn _ he));exact ⟨u::us,rfl⟩
 obtain ⟨us,rfl⟩:=h2 es (fun e he=>by
  obtain ⟨i,hi,rfl⟩:=qH.1 he;obtain ⟨u,hu,_⟩:=h1 i (by omega) hi;exact ⟨u,hu⟩)
 have hf: ∀l:List Value,(l.map fun x=> [x]).flatten=l:=by
  intro l
  induction l with
  | nil=>rfl
  | cons x l ih=>simp [ih]
 refine ⟨a,cap,us,by simpa using e1,hc,by simpa using hes,fun i h h'=>?_,fun hn=>?_⟩
 ·obtain ⟨u,hu,ht⟩:=h1 i h (by simpa using h');simp at hu;subst hu;exact ht
 ·obtain ⟨b,off,ea,hb,hcell⟩:=hm hn;exact ⟨b,off,ea,hb,by rwa [hf] at hcell⟩
theorem RepT.of_trees {N:Nat->Prop} {kids:List Tree} {a:Option Addr} {cap:Nat} {kvs:List Value} (hc:kids.length<=cap) (hl:List.length kvs=kids.length)
  (hk: ∀(i:Nat) (h:i<kids.length) (h':i<kvs.length),RepTree m N kids[i] kvs[i]) (hm:kids≠ []-> ∃b off,a=some ⟨b,off,none⟩∧N b∧cellsIn m b off kvs):
  RepT m N (.sl .tree) kids [.slice a kids.length cap] []:=by
 have hf: ∀l:List Value,(l.map fun x=> [x]).flatten=l:=by
  intro l
  induction l with
  | nil=>rfl
  | cons x l ih=>simp [ih]
 refine ⟨rfl,a,cap,kvs.map fun u=> [u],rfl,hc,by simpa using hl,fun i h h'=>⟨rfl,kvs[i]'(by simpa using h'),by simp,hk i h (by simpa using h')⟩,fun hn=>?_⟩;obtain ⟨b,off,ea,hb,hcell⟩:=hm hn;exact ⟨b,off,ea,hb,by rw [hf];exact hcell⟩
theorem zy0 {N:Nat->Prop} {x:nodeTy.den} {u:Value} (h:RepT m N (.ptr (.agg nodeTy)) x [u] []):RepT m N .tree (nodeTree x) [u] []:=by
 obtain ⟨_,b,off,es,e1,hb,hr,hc⟩:=h;obtain ⟨op,v,l,r,kids,_⟩:=x;obtain ⟨c1,d1,F1,G1,e2,f1,h1,hr⟩:=hr;obtain ⟨c2,d2,F2,G2,e3,f2,h2,hr⟩:=hr;obtain ⟨c3,d3,F3,G3,e4,f3,h3,hr⟩:=hr;obtain ⟨c4,d4,F4,G4,e5,f4,h4,hr⟩:=hr;obtain ⟨c5,d5,F5,G5,e6,f5,h5,hr⟩:=hr;have k1:c1= [.int .i64 op]:=h1.1;have k2:c2= [.int .i64 v]:=h2.1;have l3:=h3.len;have l4:=h4.len;have l5:=h5.len;have g3:=RepT.imm rfl h3;have g4:=RepT.imm rfl h4;have g5:=RepT.imm rfl h5;have k6:d5= []:=hr.1
 match c3,c4,c5,l3,l4,l5 with
 | [u3],[u4],[u5],_,_,_=>
  subst g3;subst g4;subst g5;obtain ⟨a,cap,kvs,hv,hcap,hlen,hk,hm⟩:=RepT.trees h5;refine ⟨rfl,u,rfl,?_⟩;have e0:u= .pointer (some ⟨b,off,none⟩):=by simpa using e1
  rw [e0];refine .mk op v l r kids b off u3 u4 a cap kvs hb ?_ h3.ints h4.ints hcap hlen hk hm;rw [e2,e3,e4,e5,e6,k1,k2,k6,hv] at hc;exact hc
theorem zzA (lend:Bool) {e:Ty} {c:C} {s:Sto} {x:List e.den} {s':Sto} {m':List Nat} (h:prSl lend e c s=some (x,s',m')) {N:Nat->Prop} {F:Nat->List Nat} (I:SInv m N s hd F size) {u:Value} (hu:RepC m N s hd c u)
  {rest:List C} {vs:List Value} (hr:RepCs m N s hd rest vs) {m0:List Nat}: ∃N' F',PrOK lend m N s hd F size m0 (.sl e) x rest s' (m'++m0) (u::vs) [u] vs N' F' []:=by
 cases c with
 | imm σ y=>
  simp only [prSl] at h;split at h
  ·rename_i hσ;simp only [qI,qU] at h;obtain ⟨rfl,rfl,rfl⟩:=h;exact ⟨N,F,PrOK.same I (zam hσ hu) hr (fun _ h=>h)⟩
  ·cases h
 | e0=>
  simp only [prSl,qI,qU] at h;obtain ⟨rfl,rfl,rfl⟩:=h;obtain ⟨a,ha⟩:=hu
  exact ⟨N,F,PrOK.same I ⟨rfl,a,0,[],by rw [ha];rfl,ql _,rfl,fun i h=>absurd h (by simp),fun h=>absurd rfl h⟩ hr (fun _ h=>h)⟩
 | own id ver=>
  simp only [prSl] at h;split at h
  ·rename_i v' e' xs hs;split at h
   ·rename_i hv;split at h
    ·rename_i hσ;obtain ⟨rfl,hi⟩:=hv;simp only [qI,qU] at h;obtain ⟨rfl,rfl,rfl⟩:=h;have hu':=RepC.own_hd hu hs rfl;subst hu';cases lend
     ·exact ⟨_,_,PrOK.freeze I hi hs _ rfl (fun N' k=>zam hσ k) hr⟩
     ·exact ⟨_,_,PrOK.lend I hi hs (fun N' k=>zam hσ k) hr⟩
    ·cases h
   ·cases h
  ·rename_i v' e' xs hs;split at h
   ·rename_i hv;split at h
    ·rename_i hσ;subst hv;simp only [qI,qU] at h;obtain ⟨rfl,rfl,rfl⟩:=h;have hu':=RepC.own_hd hu hs rfl;subst hu';have hob:=I.obj id;rw [hs] at hob;exact ⟨_,_,PrOK.same I (zam hσ hob.2) hr (fun _ h=>qn _ h)⟩
    ·cases h
   ·cases h
  ·rename_i v' e' xs hs;split at h
   ·rename_i hv;split at h
    ·rename_i hσ;obtain ⟨rfl,rfl,hi3⟩:=hv;simp only [qI,qU] at h;obtain ⟨rfl,rfl,rfl⟩:=h;have hu':=RepC.own_hd hu hs rfl;subst hu';have hob:=I.obj id;rw [hs] at hob;have hrd:RepT m (Sn true N s F) (.sl (immOf e')) (toImm (.own e') xs) [hd id] []:=RepT.read hi3 (fun b hb=> .inl hb) (fun k hk=> .inr ⟨id,by rw [hs];rfl,hk⟩) hob;exact ⟨_,_,PrOK.same' I (zam hσ hrd) hr (fun _ h=>qn _ h)⟩
    ·cases h
   ·cases h
  ·cases h
 | sub id ver lo hi=>
  simp only [prSl] at h;split at h
  ·rename_i v' e' xs hs;split at h
   ·rename_i hv;split at h
    ·rename_i hσ;obtain ⟨rfl,hi'⟩:=hv;simp only [qI,qU] at h;obtain ⟨rfl,rfl,rfl⟩:=h;obtain ⟨hu',h1,h2⟩:=RepC.sub_hd hu hs rfl;subst hu';cases lend
     ·exact ⟨_,_,PrOK.freeze I hi' hs _ rfl (fun N' k=>zam hσ (RepT.slice' (zqn e') k h1 (by rw [zs8];exact h2))) hr⟩
     ·exact ⟨_,_,PrOK.lend I hi' hs (fun N' k=>zam hσ (RepT.slice' (zqn e') k h1 (by rw [zs8];exact h2))) hr⟩
    ·cases h
   ·cases h
  ·rename_i v' e' xs hs;split at h
   ·rename_i hv;split at h
    ·rename_i hσ;subst hv;simp only [qI,qU] at h;obtain ⟨rfl,rfl,rfl⟩:=h;obtain ⟨hu',h1,h2⟩:=RepC.sub_hd hu hs rfl;subst hu';have hob:=I.obj id;rw [hs] at hob;exact ⟨_,_,PrOK.same I (zam hσ (RepT.slice hob.2 h1 h2)) hr (fun _ h=>qn _ h)⟩
    ·cases h
   ·cases h
  ·rename_i v' e' xs hs;split at h
   ·rename_i hv;split at h
    ·rename_i hσ;obtain ⟨rfl,rfl,hi3⟩:=hv;simp only [qI,qU] at h;obtain ⟨rfl,rfl,rfl⟩:=h;obtain ⟨hu',h1,h2⟩:=RepC.sub_hd hu hs rfl;subst hu';have hob:=I.obj id;rw [hs] at hob;have hrd:RepT m (Sn true N s F) (.sl (immOf e')) (toImm (.own e') xs) [hd id] []:=RepT.read hi3 (fun b hb=> .inl hb) (fun k hk=> .inr ⟨id,by rw [hs];rfl,hk⟩) hob;exact ⟨_,_,PrOK.same' I (zam hσ (RepT.slice' (zqn e') hrd h1 (by rw [zs8];exact h2))) hr (fun _ h=>qn _ h)⟩
    ·cases h
   ·cases h
  ·cases h
 | _=>cases h
theorem PrOK.nil {N:Nat->Prop} {s:Sto} {F:Nat->List Nat} (I:SInv m N s hd F size) {m0:List Nat} {lend:Bool}:PrOK lend m N s hd F size m0 .nil () [] s m0 [] [] [] N F [] where
 vs:=rfl
 rep:=⟨rfl,rfl⟩
 rest:=trivial
 inv:=I
 goes:=Goes.refl s hd
 vers:=fun _=>rfl
 up:=fun _ h=>h
 new:=fun _ h=> .inl h
 sub:=fun _ _ h=>h
 nod:=List.nodup_nil
 own:=by simp
 acc:=fun _ h=>h
 loc:=fun _ _=>⟨rfl,rfl⟩
 keep:=fun _ _=>⟨rfl,rfl⟩
 vk:=fun _ _ _ _=>⟨rfl,rfl⟩
 lv:=fun _ _=>⟨rfl,.inl rfl⟩
theorem zIQ {ds:List C} {s:Sto} {x:nodeTy.den} {s':Sto} {m':List Nat} (h:prNode ds s=some (x,s',m')) {N:Nat->Prop} {F:Nat->List Nat} (I:SInv m N s hd F size) {vs:List Value} (hcs:RepCs m N s hd ds vs):
  ∃v1 v2 N' F' G,PrOK false m N s hd F size [] nodeTy x [] s' m' vs v1 v2 N' F' G:=by
 unfold prNode at h;split at h
 ·rename_i op v c d k
  match vs,hcs with
  | [u1,u2,u3,u4,u5],⟨r1,r2,r3,r4,r5,_⟩=>
   split at h
   ·rename_i l s1 m1 h1;split at h
    ·rename_i r s2 m2 h2;split at h
     ·rename_i kids s3 m3 h3;simp only [qI,qU] at h;obtain ⟨rfl,rfl,rfl⟩:=h;have k1:=PrOK.same I (lend:=false) (m0:= []) (m1:= []) (τ:= .int .i64) (x:=op) (rest:= [.imm (.int .i64) v,c,d,k]) (vs:= [u2,u3,u4,u5]) r1 ⟨r2,r3,r4,r5,trivial⟩ (fun _ h=>h);have k2:=PrOK.same I (lend:=false) (m0:= []) (m1:= []) (τ:= .int .i64) (x:=v) (rest:= [c,d,k]) (vs:= [u3,u4,u5]) r2 ⟨r3,r4,r5,trivial⟩ (fun _ h=>h);obtain ⟨N3,F3,k3⟩:=zzA false h1 I r3 (rest:= [d,k]) (vs:= [u4,u5]) ⟨r4,r5,trivial⟩ (m0:= []);obtain ⟨N4,F4,k4⟩:=zzA false h2 k3.inv k3.rest.1 (rest:= [k]) (vs:= [u5]) k3.rest.2 (m0:=m1++ []);obtain ⟨N5,F5,k5⟩:=zzA false h3 k4.inv k4.rest.1 (rest:= []) (vs:= []) trivial (m0:=m2++(m1++ []));exact ⟨_,_,_,_,_,k1.seq (k2.seq (k3.seq (k4.seq (k5.seq (PrOK.nil k5.inv)))))⟩
     ·cases h
    ·cases h
   ·cases h
 ·cases h
theorem zBq (lend:Bool): ∀(τ:Ty) (cs:List C) (s:Sto) (m0:List Nat) (q:Pr τ.den),pr lend τ cs s m0=some q-> ∀ {N:Nat->Prop} {F:Nat->List Nat},SInv m N s hd F size-> ∀ {vs:List Value},RepCs m N s hd cs vs->
  ∃v1 v2 N' F' G,PrOK lend m N s hd F size m0 τ q.x q.rest q.s q.m vs v1 v2 N' F' G:=by
 intro τ
 induction τ generalizing lend with
 | agg fs ih=>
  intro cs s m0 q h N F I vs hcs;obtain ⟨v1,v2,N',F',G,k⟩:=ih lend cs s m0 q h I hcs
  exact ⟨v1,v2,N',F',G,{k with rep:=k.rep}⟩
 | nil=>
  intro cs s m0 q h N F I vs hcs;obtain rfl:=qh h
  exact ⟨[],vs,N,F,[],rfl,⟨rfl,rfl⟩,hcs,I,Goes.refl s hd,fun _=>rfl,fun _ h=>h,fun _ h=> .inl h,fun _ _ h=>h,List.nodup_nil,by simp,fun _ h=>h,fun _ _=>⟨rfl,rfl⟩,fun _ _=>⟨rfl,rfl⟩,fun _ _ _ _=>⟨rfl,rfl⟩,fun _ _=>⟨rfl,.inl rfl⟩⟩
 | cons a r iha ihr=>
  intro cs s m0 q h N F I vs hcs;simp only [pr] at h;split at h
  ·cases h
  ·rename_i p hp;split at h
   ·cases h
   ·rename_i q' hq;obtain rfl:=qh h;obtain ⟨v1,v2,N1,F1,G1,k1⟩:=iha lend cs s m0 p hp I hcs;obtain ⟨u1,u2,N2,F2,G2,k2⟩:=ihr lend _ _ _ q' hq k1.inv k1.rest
    exact ⟨_,_,_,_,_,k1.seq k2⟩
 | sl e _=>
  intro cs s m0 q h N F I vs hcs
  cases cs with
  | nil=>cases h
  | cons c r=>
   cases vs with
   | nil=>exact hcs.elim
   | cons v vs=>
    simp only [pr] at h;split at h
    ·rename_i x s' m' hp;obtain rfl:=qh h;obtain ⟨N',F',k⟩:=zzA lend hp I hcs.1 hcs.2 (m0:=m0);exact ⟨_,_,_,_,_,k⟩
    ·cases h
 | own e _=>
  intro cs s m0 q h N F I vs hcs;simp only [pr] at h;split at h
  ·cases vs with
   | nil=>exact hcs.elim
   | cons v vs=>
    obtain rfl:=qh h;obtain ⟨a,ha⟩:=hcs.1;exact ⟨[v],vs,N,F,[],PrOK.same I (.inl ⟨a,by rw [ha],rfl,rfl⟩) hcs.2 (fun _ h=>h)⟩
  ·rename_i id ver r
   cases vs with
   | nil=>exact hcs.elim
   | cons v vs=>
    split at h
    ·rename_i v' e' xs hs;split at h
     ·rename_i hv;split at h
      ·rename_i hσ;subst hv;obtain rfl:=qh h;have hu:=RepC.own_hd hcs.1 hs rfl;subst hu;have hob:=I.obj id;rw [hs] at hob;exact ⟨_,_,_,_,_,PrOK.kill I hs (zam hσ hob) hcs.2⟩
      ·split at h
       ·rename_i ys hc;subst hv;obtain rfl:=qh h;have hu:=RepC.own_hd hcs.1 hs rfl;subst hu;have hob:=I.obj id;rw [hs] at hob;exact ⟨_,_,_,_,_,PrOK.kill I hs (zKW hc hob).1 hcs.2⟩
       ·cases h
     ·cases h
    ·rename_i v' e' xs i y off id' ver' hs;split at h
     ·rename_i hv;obtain ⟨rfl,hne⟩:=hv;split at h
      ·rename_i ys s' hf;split at h
       ·rename_i hσ;obtain rfl:=qh h;have hu:=RepC.own_hd hcs.1 hs rfl;subst hu;obtain ⟨F',G,k⟩:=PrOK.fill (lend:=lend) (m0:=m0) I hs hne hf (fun G k=>zam hσ k) hcs.2;exact ⟨_,_,_,_,_,k⟩
       ·cases h
      ·cases h
     ·cases h
    ·cases h
  ·cases h
 | ptr e ih=>
  intro cs s m0 q h N F I vs hcs;simp only [pr] at h;split at h
  ·split at h
   ·rename_i σ x r hσ
    cases vs with
    | nil=>exact hcs.elim
    | cons v vs=>
     obtain rfl:=qh h;obtain ⟨b,o,es,h1,h2,h3,h4⟩:=hcs.1;exact ⟨[v],vs,N,F,[],PrOK.same I (zam hσ ⟨rfl,b,o,es,by rw [h1];rfl,h2,h3,h4⟩) hcs.2 (fun _ h=>h)⟩
   ·cases h
  ·rename_i id ver r
   cases vs with
   | nil=>exact hcs.elim
   | cons v vs=>
    split at h
    ·rename_i v' ds hs;split at h
     ·rename_i hv;obtain ⟨rfl,he⟩:=hv;split at h
      ·rename_i x s' m' hp;split at h
       ·cases h
       ·rename_i hid;obtain rfl:=qh h;obtain ⟨N',F',G,k⟩:=PrOK.ptr I hs he (x:=x) (s':=s') (m':=m') (fun {vs} hc=>ih false ds s [] _ hp I hc) (by simpa using hid) (m0:=m0) hcs.1 hcs.2;exact ⟨_,_,_,_,_,k⟩
      ·cases h
     ·cases h
    ·rename_i v' σ x hs;split at h
     ·rename_i hv;split at h
      ·rename_i hσ;subst hv;obtain rfl:=qh h;have hob:=I.obj id;rw [hs] at hob;obtain ⟨_,hr,g,hg⟩:=hob;obtain ⟨g',e1,e2⟩:=hcs.1.2.2 (by rw [hs]) (by rw [hs];rfl);have:v=hd id:=by rw [e2,e1]
       subst this;exact ⟨_,_,_,_,_,PrOK.same I (zam hσ hr) hcs.2 (fun _ h=>qn _ h)⟩
      ·cases h
     ·cases h
    ·cases h
  ·cases h
 | optr e ih=>
  intro cs s m0 q h N F I vs hcs;simp only [pr] at h;split at h
  ·rename_i σ x r;split at h
   ·rename_i hσ
    cases vs with
    | nil=>exact hcs.elim
    | cons v vs=>
     obtain rfl:=qh h;exact ⟨[v],vs,N,F,[],PrOK.same I (zam hσ hcs.1) hcs.2 (fun _ h=>h)⟩
   ·cases h
  ·rename_i r
   cases vs with
   | nil=>exact hcs.elim
   | cons v vs=>
    obtain rfl:=qh h;have hv:v= .pointer none:=hcs.1;exact ⟨[v],vs,N,F,[],PrOK.same I (τ:= .optr e) (x:=none) ⟨rfl,by rw [hv]⟩ hcs.2 (fun _ h=>h)⟩
  ·rename_i id ver r
   cases vs with
   | nil=>exact hcs.elim
   | cons v vs=>
    split at h
    ·rename_i v' ds hs;split at h
     ·rename_i hv;obtain ⟨rfl,he⟩:=hv;split at h
      ·rename_i x s' m' hp;split at h
       ·cases h
       ·rename_i hid;obtain rfl:=qh h;obtain ⟨N',F',G,k⟩:=PrOK.ptr I hs he (x:=x) (s':=s') (m':=m') (fun {vs} hc=>ih false ds s [] _ hp I hc) (by simpa using hid) (m0:=m0) hcs.1 hcs.2;exact ⟨_,_,_,_,_,⟨k.vs,k.rep,k.rest,k.inv,k.goes,k.vers,k.up,k.new,k.sub,k.nod,k.own,k.acc,k.loc,k.keep,k.vk,k.lv⟩⟩
      ·cases h
     ·cases h
    ·cases h
  ·cases h
 | box e ih=>
  intro cs s m0 q h N F I vs hcs;simp only [pr] at h;split at h
  ·rename_i id ver r
   cases vs with
   | nil=>exact hcs.elim
   | cons v vs=>
    split at h
    ·rename_i v' ds hs;split at h
     ·rename_i hv;subst hv;split at h
      ·rename_i x s' m' hp;split at h
       ·cases h
       ·rename_i hid;obtain rfl:=qh h;obtain ⟨N',F',G,k⟩:=PrOK.box I hs (x:=x) (s':=s') (m':=m') (fun {vs} hc=>ih false ds s [] _ hp I hc) (by simpa using hid) (m0:=m0) hcs.1 hcs.2;exact ⟨_,_,_,_,_,k⟩
      ·cases h
     ·cases h
    ·cases h
  ·cases h
 | tree=>
  intro cs s m0 q h N F I vs hcs
  cases cs with
  | nil=>cases h
  | cons c r=>
   cases vs with
   | nil=>exact hcs.elim
   | cons v vs=>
    cases c with
    | imm σ x=>
     simp only [pr] at h;split at h
     ·rename_i hσ;obtain rfl:=qh h;exact ⟨[v],vs,N,F,[],PrOK.same I (zam hσ hcs.1) hcs.2 (fun _ h=>h)⟩
     ·cases h
    | nilp=>
     obtain rfl:=qh h;have e:v= .pointer none:=hcs.1;subst e
     exact ⟨_,vs,N,F,[],PrOK.same I ⟨rfl,_,rfl,.nil⟩ hcs.2 (fun _ h=>h)⟩
    | iptr σ x off=>
     cases off with
     | succ _=>cases h
     | zero=>
      simp only [pr] at h;split at h
      ·rename_i hσ;obtain rfl:=qh h;obtain ⟨b,o,es,h1,h2,h3,h4⟩:=hcs.1;exact ⟨[v],vs,N,F,[],PrOK.same I (zy0 ⟨rfl,b,o,es,by rw [h1];rfl,h2,zam (τ:= .agg nodeTy) hσ h3,h4⟩) hcs.2 (fun _ h=>h)⟩
      ·cases h
    | bp id ver off=>
     cases off with
     | succ _=>cases h
     | zero=>
      simp only [pr] at h;split at h
      ·rename_i v' ds hs;split at h
       ·rename_i hv;subst hv;split at h
        ·rename_i x s' m' hp;split at h
         ·cases h
         ·rename_i hid;obtain rfl:=qh h
          obtain ⟨N',F',G,k⟩:=PrOK.ptr I hs (lend:=lend) (e:= .agg nodeTy) (x:=x) (s':=s') (m':=m') rfl (fun {vs} hc=>by
           obtain ⟨v1,v2,N',F',G,k⟩:=zIQ hp I hc;exact ⟨v1,v2,N',F',G,{k with rep:=k.rep}⟩) (by simpa using hid) (m0:=m0) hcs.1 hcs.2
          have hG:G= []:=RepT.imm rfl k.rep;subst hG;exact ⟨_,_,_,_,_,{k with rep:=zy0 k.rep}⟩
        ·cases h
       ·cases h
      ·rename_i v' σ x hs;split at h
       ·rename_i hv;split at h
        ·rename_i hσ;subst hv;obtain rfl:=qh h;have hob:=I.obj id;rw [hs] at hob;obtain ⟨_,hr,g,hg⟩:=hob;obtain ⟨g',e1,e2⟩:=hcs.1.2.2 (by rw [hs]) (by rw [hs];rfl);have:v=hd id:=by rw [e2,e1]
         subst this;obtain ⟨_,b,o,es,h1,h2,h3,h4⟩:=hr;exact ⟨_,_,_,_,_,PrOK.same I (zy0 ⟨rfl,b,o,es,h1,h2,zam (τ:= .agg nodeTy) hσ h3,h4⟩) hcs.2 (fun _ h=>qn _ h)⟩
        ·cases h
       ·cases h
      ·cases h
    | _=>cases h
 | mv e _=>
  intro cs s m0 q h N F I vs hcs
  cases cs with
  | nil=>cases h
  | cons c r=>
   cases vs with
   | nil=>exact hcs.elim
   | cons v vs=>
    cases c with
    | e0=>
     obtain rfl:=qh h;obtain ⟨a,ha⟩:=hcs.1
     exact ⟨[v],vs,N,F,[],PrOK.same I (.inl ⟨a,by rw [ha],rfl,rfl⟩) hcs.2 (fun _ h=>h)⟩
    | imm σ x=>
     simp only [pr] at h;split at h
     ·rename_i hσ;obtain rfl:=qh h;exact ⟨[v],vs,N,F,[],PrOK.same I (show RepT m N (.mv e) (some (false,castDen hσ x)) [v] [] from zam hσ hcs.1) hcs.2 (fun _ h=>h)⟩
     ·cases h
    | own id ver=>
     simp only [pr] at h;split at h
     ·rename_i v' e' xs hs;split at h
      ·rename_i hv;split at h
       ·rename_i hσ;subst hv;obtain rfl:=qh h;have hu:=RepC.own_hd hcs.1 hs rfl;subst hu;have hob:=I.obj id;rw [hs] at hob;exact ⟨_,_,_,_,_,PrOK.kill I hs (τ:= .mv e) (show RepT m N (.mv e) (some (true,castDen (σ:= .own e') (τ:= .own e) hσ xs)) [hd id] (F id) from zam (σ:= .own e') (τ:= .own e) hσ hob) hcs.2⟩
       ·cases h
      ·cases h
     ·cases h
    | _=>cases h
 | unk=>
  intro cs s m0 q h N F I vs hcs
  cases cs with
  | nil=>cases h
  | cons c r=>
   cases vs with
   | nil=>exact hcs.elim
   | cons v vs=>
    obtain rfl:=qh h
    exact ⟨[v],vs,N,F,[],PrOK.same I ⟨rfl,v,rfl,RepC.one' hcs.1⟩ hcs.2 (fun _ h=>h)⟩
 | map e _=>
  intro cs s m0 q h N F I vs hcs;simp only [pr] at h;split at h
  ·rename_i id ver r
   cases vs with
   | nil=>exact hcs.elim
   | cons v vs=>
    split at h
    ·rename_i v' e' xs hs;split at h
     ·rename_i hv;split at h
      ·rename_i hσ;subst hv;obtain rfl:=qh h;have hu:v=hd id:=hcs.1.2.2 (by rw [hs]) (by rw [hs];rfl);subst hu;have hob:=I.obj id;rw [hs] at hob;exact ⟨_,_,_,_,_,PrOK.killM I hs (zam (σ:= .map e') (τ:= .map e) hσ hob) hcs.2⟩
      ·cases h
     ·cases h
    ·cases h
  ·cases h
 | iter e _=>
  intro cs s m0 q h N F I vs hcs;simp only [pr] at h;split at h
  ·rename_i id ver r
   cases vs with
   | nil=>exact hcs.elim
   | cons v vs=>
    split at h
    ·rename_i v' e' xs hs;split at h
     ·rename_i hv;split at h
      ·rename_i hσ;subst hv;obtain rfl:=qh h;have hu:v=hd id:=hcs.1.2.2 (by rw [hs]) (by rw [hs];rfl);subst hu;have hob:=I.obj id;rw [hs] at hob;exact ⟨_,_,_,_,_,PrOK.killI I hs (zam (σ:= .iter e') (τ:= .iter e) hσ hob) hcs.2⟩
      ·cases h
     ·cases h
    ·cases h
  ·cases h
 | sb T te=>
  intro cs s m0 q h N F I vs hcs;simp only [pr] at h;split at h
  ·rename_i id ver r
   cases vs with
   | nil=>exact hcs.elim
   | cons v vs=>
    split at h
    ·rename_i v' T' te' xs hs;split at h
     ·rename_i hv;obtain ⟨rfl,rfl,rfl⟩:=hv;obtain rfl:=qh h;have hu:v=hd id:=hcs.1.2.2 (by rw [hs]) (by rw [hs];rfl);subst hu;have hob:=I.obj id;rw [hs] at hob;exact ⟨_,_,_,_,_,PrOK.killS I hs hob hcs.2⟩
     ·cases h
    ·cases h
  ·cases h
 | imap e _=>
  intro cs s m0 q h N F I vs hcs;simp only [pr] at h;split at h
  ·rename_i σ x r;split at h
   ·rename_i hσ
    cases vs with
    | nil=>exact hcs.elim
    | cons v vs=>
     obtain rfl:=qh h;exact ⟨[v],vs,N,F,[],PrOK.same I (zam hσ hcs.1) hcs.2 (fun _ h=>h)⟩
   ·cases h
  ·rename_i id ver r
   cases vs with
   | nil=>exact hcs.elim
   | cons v vs=>
    split at h
    ·rename_i v' e' xs hs;split at h
     ·rename_i hv;obtain ⟨hv,hi⟩:=hv;split at h
      ·rename_i hσ;subst hv;obtain rfl:=qh h;have hu:v=hd id:=hcs.1.2.2 (by rw [hs]) (by rw [hs];rfl);subst hu;exact ⟨_,_,_,_,_,PrOK.freezeM I hi hs (fun N' h'=>zam (σ:= .imap e') (τ:= .imap e) hσ h') hcs.2⟩
      ·cases h
     ·cases h
    ·cases h
  ·cases h
 | bool | int _ | str | fn _ _ | opq=>
  intro cs s m0 q h N F I vs hcs;exact zLW I h hcs
end
structure InjOK (m:Mem) (N:Nat->Prop) (s:Sto) (hd:Nat->Value) (F:Nat->List Nat) (size:Nat) (G:List Nat) (s':Sto) (ids:List Nat) (b b':Nat) (hd':Nat->Value) (F':Nat->List Nat):Prop where
  inv:SInv m N s' hd' F' size
  goes:Goes s s' hd hd'
  loc: ∀i,i∉ids->s' i=s i∧F' i=F i∧hd' i=hd i
  sub: ∀i k,k∈F' i->k∈F i∨k∈G
  rng: ∀i∈ids,b<=i∧i<b'
  le:b<=b'
section
variable {m : Mem} {N : Nat -> Prop} {size : Nat}
theorem InjOK.none {s:Sto} {hd:Nat->Value} {F:Nat->List Nat} (I:SInv m N s hd F size) (G:List Nat) (b:Nat):InjOK m N s hd F size G s [] b b hd F:=
  ⟨I,Goes.refl s hd,fun _ _=>⟨rfl,rfl,rfl⟩,fun _ _ h=> .inl h,by simp,ql _⟩
theorem InjOK.seq {s s1 s2:Sto} {hd hd1 hd2:Nat->Value} {F F1 F2:Nat->List Nat} {G1 G2:List Nat} {i1 i2:List Nat} {b b1 b2:Nat} (h1:InjOK m N s hd F size G1 s1 i1 b b1 hd1 F1) (h2:InjOK m N s1 hd1 F1 size G2 s2 i2 b1 b2 hd2 F2):
    InjOK m N s hd F size (G1++G2) s2 (i1++i2) b b2 hd2 F2 where
  inv:=h2.inv
  goes:=h1.goes.trans h2.goes
  loc:=fun i hi=>by
    have a1:=h1.loc i (fun h=>hi (qw _ h));have a2:=h2.loc i (fun h=>hi (qB _ h));exact ⟨a2.1.trans a1.1,a2.2.1.trans a1.2.1,a2.2.2.trans a1.2.2⟩
  sub:=fun i k hk=>by
    rcases h2.sub i k hk with h | h
    · rcases h1.sub i k h with h | h
      · exact .inl h
      · exact .inr (qw _ h)
    · exact .inr (qB _ h)
  rng:=fun i hi=>by
    have:=h1.le;have:=h2.le;rcases qr.1 hi with h | h
    · have:=h1.rng i h;omega
    · have:=h2.rng i h;omega
  le:=Nat.le_trans h1.le h2.le
structure Fresh (N:Nat->Prop) (F:Nat->List Nat) (size:Nat) (G:List Nat):Prop where
  nod:G.Nodup
  lt: ∀k∈G,k<size
  n: ∀k∈G,¬N k
  f: ∀k∈G,∀i,k∉F i
theorem Fresh.left {F:Nat->List Nat} {G1 G2:List Nat} (h:Fresh N F size (G1++G2)):Fresh N F size G1:=
  ⟨(qN.1 h.nod).1,fun k hk=>h.lt k (qw _ hk),fun k hk=>h.n k (qw _ hk),fun k hk=>h.f k (qw _ hk)⟩
theorem Fresh.right {F F1:Nat->List Nat} {G1 G2:List Nat} (h:Fresh N F size (G1++G2)) (hs: ∀i k,k∈F1 i->k∈F i∨k∈G1):Fresh N F1 size G2:=
  ⟨(qN.1 h.nod).2.1,fun k hk=>h.lt k (qB _ hk),fun k hk=>h.n k (qB _ hk),fun k hk i hi=>by
    rcases hs i k hi with h' | h'
    · exact h.f k (qB _ hk) i h'
    · exact (qN.1 h.nod).2.2 k h' k hk rfl⟩
theorem zmX {s:Sto} {hd:Nat->Value} {F:Nat->List Nat} (I:SInv m N s hd F size) (id ver:Nat) (o:Obj) (v:Value) (G:List Nat) (hG:Fresh N F size G) (hver:(s id).1<ver)
    (ho: ∀s' hd',Goes s s' hd hd'->hd' id=v->ObjRep m N s' hd' o v G):
    InjOK m N s hd F size G (s.set id (ver,o)) [id] id (id+1) (fun i=>if i=id then v else hd i) (fun i=>if i=id then G else F i):=by
  have hg:Goes s (s.set id (ver,o)) hd (fun i=>if i=id then v else hd i):=Goes.set_new id ver o hver (fun i hi=>by simp [hi]);refine ⟨I.upd id (ver,o) G (ql _) (fun b hb=>⟨hb,rfl⟩) (fun k hk=>⟨I.ltN k hk,fun i _ hi=>I.sep i k hi hk,fun h=>hG.n k h hk⟩) (fun _ _ _ _=>rfl) hG.nod (fun k hk=>⟨hG.lt k hk,fun i _=>hG.f k hk i⟩) hg (fun i hi=>by simp [hi]) ?_,hg,fun i hi=>?_,fun i k hk=>?_,by simp,by omega⟩
  · have:=ho (s.set id (ver,o)) (fun i=>if i=id then v else hd i) hg (by simp);simpa using this
  · have e:i≠id:=fun h=>hi (by simp [h])
    exact ⟨Sto.set_ne _ _ e,by simp [e],by simp [e]⟩
  · by_cases e:i=id
    · simp only [e,qf] at hk;exact .inr hk
    · simp only [e,qe] at hk;exact .inl hk
theorem zHw: ∀(τ:Ty) (x:τ.den) (s:Sto) (b:Nat) {hd:Nat->Value} {F:Nat->List Nat},SInv m N s hd F size-> ∀ {vs:List Value} {G:List Nat},RepT m N τ x vs G->Fresh N F size G->
    ∃hd' F',InjOK m N s hd F size G (inj τ x s b).s (inj τ x s b).ids b (inj τ x s b).b hd' F'∧RepCs m N (inj τ x s b).s hd' (inj τ x s b).cs vs:=by
  intro τ
  induction τ with
  | agg fs ih=>intro x s b hd F I vs G h hG;exact ih x s b I h hG
  | nil=>intro x s b hd F I vs G h hG;exact ⟨hd,F,InjOK.none I G b,by rw [h.1];trivial⟩
  | cons a r iha ihr=>
    intro x s b hd F I vs G h hG;obtain ⟨c1,c2,F1,F2,e1,e2,h1,h2⟩:=h;subst e1;subst e2;obtain ⟨hd1,Fa,k1,r1⟩:=iha x.1 s b I h1 hG.left;obtain ⟨hd2,Fb,k2,r2⟩:=ihr x.2 (inj a x.1 s b).s (inj a x.1 s b).b k1.inv h2 (hG.right k1.sub)
    exact ⟨hd2,Fb,k1.seq k2,(r1.goes (fun b hb=>⟨hb,rfl⟩) k2.goes).append r2⟩
  | own e _=>
    intro x s b hd F I vs G h hG;have hl:=h.len
    obtain ⟨v,rfl⟩: ∃v,vs= [v]:=by
      match vs,hl with
      | [v],_=>exact ⟨v,rfl⟩
    have k:=zmX I b ((s b).1+1) (.vec e x) v G hG (by omega) (fun s' hd' _ _=>h);refine ⟨_,_,k,?_,trivial⟩
    exact ⟨by simp [inj,Sto.set_same],RepT.one' h v (by simp),fun _ _=>by simp⟩
  | box e ih=>
    intro x s b hd F I vs G h hG;obtain ⟨g,es,T,F',e1,hc,hr,e2⟩:=h;subst e1;subst e2;have hG':Fresh N F size F':=⟨(List.nodup_cons.1 hG.nod).2,fun k hk=>hG.lt k (qn _ hk),fun k hk=>hG.n k (qn _ hk),fun k hk=>hG.f k (qn _ hk)⟩;obtain ⟨hd1,F1,k1,r1⟩:=ih x s (b+1) I hr hG'
    have hg:Fresh N F1 size [g]:=⟨by simp,by simpa using hG.lt g (by simp),by simpa using hG.n g (by simp),fun k hk i hi=>by
      simp at hk;subst hk;rcases k1.sub i k hi with h | h
      · exact hG.f k (by simp) i h
      · exact (List.nodup_cons.1 hG.nod).1 h⟩
    have k2:=zmX k1.inv b (((inj e x s (b+1)).s b).1+1) (.box (inj e x s (b+1)).cs) (.pointer (some ⟨g,0,none⟩)) [g] hg (by omega)
      (fun s' hd' hgo _=>⟨g,es,T,rfl,hc,r1.goes (fun b hb=>⟨hb,rfl⟩) hgo,rfl⟩)
    refine ⟨_,_,⟨k2.inv,k1.goes.trans k2.goes,fun i hi=>?_,fun i k hk=>?_,fun i hi=>?_,?_⟩,?_,trivial⟩
    · have hi1:i∉(inj e x s (b+1)).ids:=fun h=>hi (qn _ h)
      have hi2:i∉ [b]:=fun h=>hi (by simp at h;rw [h];exact qv ..)
      have a1:=k1.loc i hi1;have a2:=k2.loc i hi2;exact ⟨a2.1.trans a1.1,a2.2.1.trans a1.2.1,a2.2.2.trans a1.2.2⟩
    · rcases k2.sub i k hk with h | h
      · rcases k1.sub i k h with h | h
        · exact .inl h
        · exact .inr (qn _ h)
      · simp at h;subst h;exact .inr (qv ..)
    · have:=k1.le;rcases qz.1 hi with rfl | h
      · exact ⟨ql _,this⟩
      · have:=k1.rng i h;exact ⟨by omega,this.2⟩
    · have:=k1.le;show b<=(inj e x s (b+1)).b;omega
    · exact ⟨by simp [inj,Sto.set_same],rfl,fun _ _=>⟨g,by simp,rfl⟩⟩
  | ptr e _=>
    intro x s b hd F I vs G h hG;obtain ⟨_,bb,off,es,e1,h1,h2,h3⟩:=h;subst e1
    exact ⟨hd,F,InjOK.none I G b,⟨bb,off,es,rfl,h1,h2,h3⟩,trivial⟩
  | map e _=>
    intro x s b hd F I vs G h hG;have hl:=h.len
    obtain ⟨v,rfl⟩: ∃v,vs= [v]:=by
      match vs,hl with
      | [v],_=>exact ⟨v,rfl⟩
    have k:=zmX I b ((s b).1+1) (.mapo e x) v G hG (by omega) (fun s' hd' _ _=>h);refine ⟨_,_,k,?_,trivial⟩
    exact ⟨by simp [inj,Sto.set_same],RepT.one' h v (by simp),fun _ _=>by simp⟩
  | iter e _=>
    intro x s b hd F I vs G h hG;have hl:=h.len
    obtain ⟨v,rfl⟩: ∃v,vs= [v]:=by
      match vs,hl with
      | [v],_=>exact ⟨v,rfl⟩
    have k:=zmX I b ((s b).1+1) (.itero e x) v G hG (by omega) (fun s' hd' _ _=>h);refine ⟨_,_,k,?_,trivial⟩
    exact ⟨by simp [inj,Sto.set_same],RepT.one' h v (by simp),fun _ _=>by simp⟩
  | sb T te=>
    intro x s b hd F I vs G h hG;have hl:=h.len
    obtain ⟨v,rfl⟩: ∃v,vs= [v]:=by
      match vs,hl with
      | [v],_=>exact ⟨v,rfl⟩
    have k:=zmX I b ((s b).1+1) (.sbo T te x) v G hG (by omega) (fun s' hd' _ _=>h);refine ⟨_,_,k,?_,trivial⟩
    exact ⟨by simp [inj,Sto.set_same],RepT.one' h v (by simp),fun _ _=>by simp⟩
  | mv e _=>
    intro x s b hd F I vs G h hG;have hl:=h.len
    obtain ⟨v,rfl⟩: ∃v,vs= [v]:=by
      match vs,hl with
      | [v],_=>exact ⟨v,rfl⟩
    match x,h with
    | none,h=>
      have hG0:=h.1;subst hG0
      exact ⟨hd,F,InjOK.none I [] b,h,trivial⟩
    | some (false,ys),h=>
      have hG0:=h.1;subst hG0
      exact ⟨hd,F,InjOK.none I [] b,h,trivial⟩
    | some (true,ys),h=>
      have h':RepT m N (.own e) ys [v] G:=h;have k:=zmX I b ((s b).1+1) (.vec e ys) v G hG (by omega) (fun s' hd' _ _=>h');refine ⟨_,_,k,?_,trivial⟩
      exact ⟨by simp [inj,Sto.set_same],RepT.one' h' v (by simp),fun _ _=>by simp⟩
  | bool | int _ | str | tree | unk | opq=>
    intro x s b hd F I vs G h hG;have hl:=h.len;have hG0:=RepT.imm rfl h;subst hG0
    match vs,hl with
    | [v],_=>exact ⟨hd,F,InjOK.none I [] b,h,trivial⟩
  | sl e _=>
    intro x s b hd F I vs G h hG;have hl:=h.len;have hG0:=h.1;subst hG0
    match vs,hl with
    | [v],_=>exact ⟨hd,F,InjOK.none I [] b,h,trivial⟩
  | optr e _=>
    intro x s b hd F I vs G h hG;have hl:=h.len
    have hG0:G= []:=by
      match x,h with
      | none,h=>exact h.1
      | some _,h=>exact h.1
    subst hG0
    match vs,hl with
    | [v],_=>exact ⟨hd,F,InjOK.none I [] b,h,trivial⟩
  | imap e _=>
    intro x s b hd F I vs G h hG;have hl:=h.len;have hG0:=h.1;subst hG0
    match vs,hl with
    | [v],_=>exact ⟨hd,F,InjOK.none I [] b,h,trivial⟩
  | fn f caps _=>
    intro x s b hd F I vs G h hG;have hl:=h.len;have hG0:=h.1;subst hG0
    match vs,hl with
    | [v],_=>exact ⟨hd,F,InjOK.none I [] b,h,trivial⟩
end
theorem zxn (lend:Bool) {e:Ty} {c:C} {s:Sto} {x:List e.den} {s':Sto} {m':List Nat} (h:prSl lend e c s=some (x,s',m')): ∀i,i∉m'->s' i=s i:=by
  unfold prSl at h
  repeat' split at h
  all_goals first
    | (cases h;done)
    | (simp only [qI,qU] at h
       obtain ⟨_,rfl,rfl⟩:=h;intro i hi
       first
        | rfl
        | exact Sto.set_ne _ _ (fun h=>hi (by rw [h];exact qv ..)))
theorem zGB {ds:List C} {s:Sto} {x:nodeTy.den} {s':Sto} {m':List Nat} (h:prNode ds s=some (x,s',m')): ∀i,i∉m'->s' i=s i:=by
  unfold prNode at h
  repeat' split at h
  all_goals first
    | (cases h;done)
    | (rename_i h1 _ _ _ _ h2 _ _ _ _ h3
       simp only [qI,qU] at h;obtain ⟨_,rfl,rfl⟩:=h;intro i hi;simp only [qP,qr,not_or] at hi;exact (zxn _ h3 i hi.1).trans ((zxn _ h2 i hi.2.1).trans (zxn _ h1 i hi.2.2)))
theorem zFn (lend:Bool): ∀(τ:Ty) (cs:List C) (s:Sto) (m0:List Nat) (q:Pr τ.den),pr lend τ cs s m0=some q->(∀i∈m0,i∈q.m)∧ ∀i,i∉q.m->q.s i=s i:=by
  intro τ
  induction τ generalizing lend with
  | agg fs ih=>intro cs s m0 q h;exact ih lend cs s m0 q h
  | nil=>intro cs s m0 q h;obtain rfl:=qh h;exact ⟨fun _ h=>h,fun _ _=>rfl⟩
  | cons a r iha ihr=>
    intro cs s m0 q h;simp only [pr] at h;split at h
    · cases h
    · rename_i p hp;split at h
      · cases h
      · rename_i q' hq;obtain rfl:=qh h;have h1:=iha lend _ _ _ _ hp;have h2:=ihr lend _ _ _ _ hq
        exact ⟨fun i hi=>h2.1 i (h1.1 i hi),fun i hi=>(h2.2 i hi).trans (h1.2 i (fun h=>hi (h2.1 i h)))⟩
  | sl e _=>
    intro cs s m0 q h;simp only [pr] at h;split at h
    · split at h
      · rename_i hp;obtain rfl:=qh h;exact ⟨fun i hi=>qB _ hi,fun i hi=>zxn _ hp i (fun h=>hi (qw _ h))⟩
      · cases h
    · cases h
  | own e _=>
    intro cs s m0 q h;simp only [pr] at h
    repeat' split at h
    all_goals first
      | (cases h;done)
      | (obtain rfl:=qh h
         refine ⟨fun i hi=>by first | exact hi | exact qn _ hi | exact qn _ (qn _ hi),fun i hi=>?_⟩
         first
          | rfl
          | exact Sto.set_ne _ _ (fun h=>hi (by rw [h];exact qv ..))
          | exact (Sto.set_ne _ _ (fun h=>hi (by rw [h];exact qv ..))).trans (zor (by assumption) i (fun h=>hi (by rw [h];exact qn _ (qv ..)))))
  | ptr e ih | box e ih | optr e ih=>
    intro cs s m0 q h;simp only [pr] at h
    repeat' split at h
    all_goals first
      | (cases h;done)
      | (obtain rfl:=qh h
         refine ⟨fun i hi=>?_,fun i hi=>?_⟩
         · first | exact hi | exact qn _ hi | exact qn _ (qB _ hi)
         · first
            | rfl
            | (refine (Sto.set_ne _ _ (fun h=>hi (by rw [h];exact qv ..))).trans ((ih false _ _ _ _ (by assumption)).2 i (fun h=>hi (qn _ (qw _ h))))))
  | mv e _=>
    intro cs s m0 q h;simp only [pr] at h
    repeat' split at h
    all_goals first
      | (cases h;done)
      | (obtain rfl:=qh h
         refine ⟨fun i hi=>by first | exact hi | exact qn _ hi,fun i hi=>?_⟩
         first
          | rfl
          | exact Sto.set_ne _ _ (fun h=>hi (by rw [h];exact qv ..)))
  | unk=>
    intro cs s m0 q h
    cases cs with
    | nil=>cases h
    | cons c r=>obtain rfl:=qh h;exact ⟨fun _ h=>h,fun _ _=>rfl⟩
  | map e _=>
    intro cs s m0 q h;simp only [pr] at h
    repeat' split at h
    all_goals first
      | (cases h;done)
      | (obtain rfl:=qh h
         exact ⟨fun i hi=>qn _ hi,fun i hi=>Sto.set_ne _ _ (fun h=>hi (by rw [h];exact qv ..))⟩)
  | iter e _=>
    intro cs s m0 q h;simp only [pr] at h
    repeat' split at h
    all_goals first
      | (cases h;done)
      | (obtain rfl:=qh h
         exact ⟨fun i hi=>qn _ hi,fun i hi=>Sto.set_ne _ _ (fun h=>hi (by rw [h];exact qv ..))⟩)
  | sb T te=>
    intro cs s m0 q h;simp only [pr] at h
    repeat' split at h
    all_goals first
      | (cases h;done)
      | (obtain rfl:=qh h
         exact ⟨fun i hi=>qn _ hi,fun i hi=>Sto.set_ne _ _ (fun h=>hi (by rw [h];exact qv ..))⟩)
  | imap e _=>
    intro cs s m0 q h;simp only [pr] at h
    repeat' split at h
    all_goals first
      | (cases h;done)
      | (obtain rfl:=qh h
         exact ⟨fun _ h=>h,fun _ _=>rfl⟩)
      | (obtain rfl:=qh h
         exact ⟨fun i hi=>qn _ hi,fun i hi=>Sto.set_ne _ _ (fun h=>hi (by rw [h];exact qv ..))⟩)
  | tree=>
    intro cs s m0 q h;simp only [pr] at h
    repeat' split at h
    all_goals first
      | (cases h;done)
      | (obtain rfl:=qh h
         refine ⟨fun i hi=>?_,fun i hi=>?_⟩
         · first | exact hi | exact qn _ hi | exact qn _ (qB _ hi)
         · first
            | rfl
            | (refine (Sto.set_ne _ _ (fun h=>hi (by rw [h];exact qv ..))).trans (zGB (by assumption) i (fun h=>hi (qn _ (qw _ h))))))
  | bool | int _ | str | fn _ _ | opq=>
    intro cs s m0 q h
    cases cs with
    | nil=>cases h
    | cons c r=>
      cases c with
      | imm σ x=>
        simp only [pr] at h;split at h
        · obtain rfl:=qh h;exact ⟨fun _ h=>h,fun _ _=>rfl⟩
        · cases h
      | _=>cases h
theorem zbb {M:List Nat} {s s2:Sto} (hs: ∀i∈M,s2 i=s i) (id:Nat) (e:Nat×Obj): ∀i∈M,(s2.set id e) i=(s.set id e) i:=by
  intro i hi;by_cases h:i=id
  · subst h;simp [Sto.set_same]
  · simp only [Sto.set_ne _ _ h];exact hs i hi
theorem zuU (lend:Bool) {e:Ty} {c:C} {s:Sto} {x:List e.den} {s':Sto} {m':List Nat} (h:prSl lend e c s=some (x,s',m')) {M:List Nat} (hM: ∀i∈m',i∈M) {s2:Sto} (hs: ∀i∈M,s2 i=s i):
    ∃s2',prSl lend e c s2=some (x,s2',m')∧ ∀i∈M,s2' i=s' i:=by
  cases c with
  | imm σ y=>
    simp only [prSl] at h ⊢;split at h
    · rename_i hσ;simp only [qI,qU] at h;obtain ⟨rfl,rfl,rfl⟩:=h;exact ⟨s2,by rw [dif_pos hσ],hs⟩
    · cases h
  | e0=>
    simp only [prSl,qI,qU] at h;obtain ⟨rfl,rfl,rfl⟩:=h
    exact ⟨s2,rfl,hs⟩
  | own id ver | sub id ver _ _=>
    simp only [prSl] at h ⊢;split at h
    · rename_i v' e' xs hsid;split at h
      · rename_i hv;split at h
        · rename_i hσ;simp only [qI,qU] at h;obtain ⟨rfl,rfl,rfl⟩:=h;have hid:=hs id (hM id (qv ..));rw [hsid] at hid;exact ⟨_,by simp only [hid];rw [qb hv,dif_pos hσ],zbb hs id _⟩
        · cases h
      · cases h
    · rename_i v' e' xs hsid;split at h
      · rename_i hv;split at h
        · rename_i hσ;simp only [qI,qU] at h;obtain ⟨rfl,rfl,rfl⟩:=h;have hid:=hs id (hM id (qv ..));rw [hsid] at hid;exact ⟨s2,by simp only [hid];rw [qb hv,dif_pos hσ],hs⟩
        · cases h
      · cases h
    · rename_i v' e' xs hsid;split at h
      · rename_i hv;split at h
        · rename_i hσ;simp only [qI,qU] at h;obtain ⟨rfl,rfl,rfl⟩:=h;have hid:=hs id (hM id (qv ..));rw [hsid] at hid;exact ⟨s2,by simp only [hid];rw [qb hv,dif_pos hσ],hs⟩
        · cases h
      · cases h
    · cases h
  | _=>cases h
theorem zEU {ds:List C} {s:Sto} {x:nodeTy.den} {s':Sto} {m':List Nat} (h:prNode ds s=some (x,s',m')) {M:List Nat} (hM: ∀i∈m',i∈M) {s2:Sto} (hs: ∀i∈M,s2 i=s i):
    ∃s2',prNode ds s2=some (x,s2',m')∧ ∀i∈M,s2' i=s' i:=by
  unfold prNode at h;split at h
  · split at h
    · rename_i l s1 m1 h1;split at h
      · rename_i r s3 m3 h3;split at h
        · rename_i kids s5 m5 h5;simp only [qI,qU] at h;obtain ⟨rfl,rfl,rfl⟩:=h;obtain ⟨t1,e1,g1⟩:=zuU _ h1 (fun i hi=>hM i (by simp [hi])) hs;obtain ⟨t2,e2,g2⟩:=zuU _ h3 (fun i hi=>hM i (by simp [hi])) g1;obtain ⟨t3,e3,g3⟩:=zuU _ h5 (fun i hi=>hM i (by simp [hi])) g2;exact ⟨t3,by simp only [prNode,e1,e2,e3],g3⟩
        · cases h
      · cases h
    · cases h
  · cases h
theorem zsj (lend:Bool): ∀(τ:Ty) (cs:List C) (s:Sto) (m0:List Nat) (q:Pr τ.den),pr lend τ cs s m0=some q-> ∀(M:List Nat),(∀i∈q.m,i∈M)-> ∀(s2:Sto),(∀i∈M,s2 i=s i)->
    ∃s2',pr lend τ cs s2 m0=some {x:=q.x,rest:=q.rest,s:=s2',m:=q.m}∧ ∀i∈M,s2' i=q.s i:=by
  intro τ
  induction τ generalizing lend with
  | agg fs ih=>intro cs s m0 q h;exact ih lend cs s m0 q h
  | nil=>intro cs s m0 q h M hM s2 hs;obtain rfl:=qh h;exact ⟨s2,rfl,hs⟩
  | cons a r iha ihr=>
    intro cs s m0 q h M hM s2 hs;simp only [pr] at h;split at h
    · cases h
    · rename_i p hp;split at h
      · cases h
      · rename_i q' hq;obtain rfl:=qh h;obtain ⟨t1,e1,g1⟩:=iha lend _ _ _ _ hp M (fun i hi=>hM i ((zFn lend _ _ _ _ _ hq).1 i hi)) s2 hs;obtain ⟨t2,e2,g2⟩:=ihr lend _ _ _ _ hq M hM t1 g1
        exact ⟨t2,by simp only [pr,e1,e2],g2⟩
  | sl e _=>
    intro cs s m0 q h M hM s2 hs;simp only [pr] at h;split at h
    · split at h
      · rename_i hp;obtain rfl:=qh h;obtain ⟨t1,e1,g1⟩:=zuU _ hp (fun i hi=>hM i (qw _ hi)) hs;exact ⟨t1,by simp only [pr,e1],g1⟩
      · cases h
    · cases h
  | own e _=>
    intro cs s m0 q h M hM s2 hs
    cases cs with
    | nil=>cases h
    | cons c r=>
      cases c with
      | e0=>obtain rfl:=qh h;exact ⟨s2,rfl,hs⟩
      | own id ver=>
        simp only [pr] at h ⊢;split at h
        · rename_i v' e' xs hsid;split at h
          · rename_i hv;split at h
            · rename_i hσ;obtain rfl:=qh h;have hid:=hs id (hM id (qv ..));rw [hsid] at hid;exact ⟨_,by simp only [hid];rw [qb hv,dif_pos hσ],zbb hs id _⟩
            · rename_i hσ;split at h
              · rename_i ys hc;obtain rfl:=qh h;have hid:=hs id (hM id (qv ..));rw [hsid] at hid;exact ⟨_,by simp only [hid];rw [qb hv,dif_neg hσ,hc],zbb hs id _⟩
              · cases h
          · cases h
        · rename_i v' e' xs i y off id' ver' hsid;split at h
          · rename_i hv;split at h
            · rename_i ys s' hf;split at h
              · rename_i hσ;obtain rfl:=qh h;have hid:=hs id (hM id (qv ..));rw [hsid] at hid;have hid':=hs id' (hM id' (qn _ (qv ..)));obtain ⟨s2',f1,f2,f3⟩:=zAk hf hid';refine ⟨_,by simp only [hid];rw [qb hv,f1];simp only;rw [dif_pos hσ],zbb (fun j hj=>?_) id _⟩;by_cases hj':j=id'
                · rw [hj',f2]
                · rw [f3 j hj',zor hf j hj'];exact hs j hj
              · cases h
            · cases h
          · cases h
        · cases h
      | _=>cases h
  | ptr e ih=>
    intro cs s m0 q h M hM s2 hs
    cases cs with
    | nil=>cases h
    | cons c r=>
      cases c with
      | iptr σ x off=>
        cases off with
        | zero=>
          simp only [pr] at h ⊢;split at h
          · rename_i hσ;obtain rfl:=qh h;exact ⟨s2,by rw [dif_pos hσ],hs⟩
          · cases h
        | succ _=>cases h
      | bp id ver off=>
        cases off with
        | succ _=>cases h
        | zero=>
          simp only [pr] at h ⊢;split at h
          · rename_i v' ds hsid;split at h
            · rename_i hv;split at h
              · rename_i x s' m' hp;split at h
                · cases h
                · rename_i hid';obtain rfl:=qh h;have hid:=hs id (hM id (qv ..));rw [hsid] at hid;obtain ⟨t,e1,g1⟩:=ih false _ _ _ _ hp M (fun i hi=>hM i (qn _ (qw _ hi))) s2 hs;exact ⟨_,by simp only [hid];rw [qb hv,e1];simp only;rw [qc hid'],zbb g1 id _⟩
              · cases h
            · cases h
          · rename_i v' σ x hsid;split at h
            · rename_i hv;split at h
              · rename_i hσ;obtain rfl:=qh h;have hid:=hs id (hM id (qv ..));rw [hsid] at hid;exact ⟨s2,by simp only [hid];rw [qb hv,dif_pos hσ],hs⟩
              · cases h
            · cases h
          · cases h
      | _=>cases h
  | optr e ih=>
    intro cs s m0 q h M hM s2 hs
    cases cs with
    | nil=>cases h
    | cons c r=>
      cases c with
      | imm σ x=>
        simp only [pr] at h ⊢;split at h
        · rename_i hσ;obtain rfl:=qh h;exact ⟨s2,by rw [dif_pos hσ],hs⟩
        · cases h
      | nilp=>
        simp only [pr] at h ⊢
        obtain rfl:=qh h;exact ⟨s2,rfl,hs⟩
      | bp id ver off=>
        cases off with
        | succ _=>cases h
        | zero=>
          simp only [pr] at h ⊢;split at h
          · rename_i v' ds hsid;split at h
            · rename_i hv;split at h
              · rename_i x s' m' hp;split at h
                · cases h
                · rename_i hid';obtain rfl:=qh h;have hid:=hs id (hM id (qv ..));rw [hsid] at hid;obtain ⟨t,e1,g1⟩:=ih false _ _ _ _ hp M (fun i hi=>hM i (qn _ (qw _ hi))) s2 hs;exact ⟨_,by simp only [hid];rw [qb hv,e1];simp only;rw [qc hid'],zbb g1 id _⟩
              · cases h
            · cases h
          · cases h
      | _=>cases h
  | box e ih=>
    intro cs s m0 q h M hM s2 hs
    cases cs with
    | nil=>cases h
    | cons c r=>
      cases c with
      | bp id ver off=>
        cases off with
        | succ _=>cases h
        | zero=>
          simp only [pr] at h ⊢;split at h
          · rename_i v' ds hsid;split at h
            · rename_i hv;split at h
              · rename_i x s' m' hp;split at h
                · cases h
                · rename_i hid';obtain rfl:=qh h;have hid:=hs id (hM id (qv ..));rw [hsid] at hid;obtain ⟨t,e1,g1⟩:=ih false _ _ _ _ hp M (fun i hi=>hM i (qn _ (qw _ hi))) s2 hs;exact ⟨_,by simp only [hid];rw [qb hv,e1];simp only;rw [qc hid'],zbb g1 id _⟩
              · cases h
            · cases h
          · cases h
      | _=>cases h
  | mv e _=>
    intro cs s m0 q h M hM s2 hs
    cases cs with
    | nil=>cases h
    | cons c r=>
      cases c with
      | e0=>obtain rfl:=qh h;exact ⟨s2,rfl,hs⟩
      | imm σ x=>
        simp only [pr] at h ⊢;split at h
        · rename_i hσ;obtain rfl:=qh h;exact ⟨s2,by rw [dif_pos hσ],hs⟩
        · cases h
      | own id ver=>
        simp only [pr] at h ⊢;split at h
        · rename_i v' e' xs hsid;split at h
          · rename_i hv;split at h
            · rename_i hσ;obtain rfl:=qh h;have hid:=hs id (hM id (qv ..));rw [hsid] at hid;exact ⟨_,by simp only [hid];rw [qb hv,dif_pos hσ],zbb hs id _⟩
            · cases h
          · cases h
        · cases h
      | _=>cases h
  | unk=>
    intro cs s m0 q h M hM s2 hs
    cases cs with
    | nil=>cases h
    | cons c r=>obtain rfl:=qh h;exact ⟨s2,rfl,hs⟩
  | map e _=>
    intro cs s m0 q h M hM s2 hs
    cases cs with
    | nil=>cases h
    | cons c r=>
      cases c with
      | mp id ver=>
        simp only [pr] at h ⊢;split at h
        · rename_i v' e' xs hsid;split at h
          · rename_i hv;split at h
            · rename_i hσ;obtain rfl:=qh h;have hid:=hs id (hM id (qv ..));rw [hsid] at hid;exact ⟨_,by simp only [hid];rw [qb hv,dif_pos hσ],zbb hs id _⟩
            · cases h
          · cases h
        · cases h
      | _=>cases h
  | sb T te=>
    intro cs s m0 q h M hM s2 hs
    cases cs with
    | nil=>cases h
    | cons c r=>
      cases c with
      | mp id ver=>
        simp only [pr] at h ⊢;split at h
        · rename_i v' T' te' xs hsid;split at h
          · rename_i hv;obtain rfl:=qh h;have hid:=hs id (hM id (qv ..));rw [hsid] at hid;exact ⟨_,by simp only [hid];rw [qb hv],zbb hs id _⟩
          · cases h
        · cases h
      | _=>cases h
  | iter e _=>
    intro cs s m0 q h M hM s2 hs
    cases cs with
    | nil=>cases h
    | cons c r=>
      cases c with
      | mp id ver=>
        simp only [pr] at h ⊢;split at h
        · rename_i v' e' xs hsid;split at h
          · rename_i hv;split at h
            · rename_i hσ;obtain rfl:=qh h;have hid:=hs id (hM id (qv ..));rw [hsid] at hid;exact ⟨_,by simp only [hid];rw [qb hv,dif_pos hσ],zbb hs id _⟩
            · cases h
          · cases h
        · cases h
      | _=>cases h
  | imap e _=>
    intro cs s m0 q h M hM s2 hs
    cases cs with
    | nil=>cases h
    | cons c r=>
      cases c with
      | imm σ x=>
        simp only [pr] at h ⊢;split at h
        · rename_i hσ;obtain rfl:=qh h;exact ⟨s2,by rw [dif_pos hσ],hs⟩
        · cases h
      | mp id ver=>
        simp only [pr] at h ⊢;split at h
        · rename_i v' e' xs hsid;split at h
          · rename_i hv;split at h
            · rename_i hσ;obtain rfl:=qh h;have hid:=hs id (hM id (qv ..));rw [hsid] at hid;exact ⟨_,by simp only [hid];rw [qb hv,dif_pos hσ],zbb hs id _⟩
            · cases h
          · cases h
        · cases h
      | _=>cases h
  | tree=>
    intro cs s m0 q h M hM s2 hs
    cases cs with
    | nil=>cases h
    | cons c r=>
      cases c with
      | imm σ x=>
        simp only [pr] at h ⊢;split at h
        · rename_i hσ;obtain rfl:=qh h;exact ⟨s2,by rw [dif_pos hσ],hs⟩
        · cases h
      | nilp=>obtain rfl:=qh h;exact ⟨s2,rfl,hs⟩
      | iptr σ x off=>
        cases off with
        | zero=>
          simp only [pr] at h ⊢;split at h
          · rename_i hσ;obtain rfl:=qh h;exact ⟨s2,by rw [dif_pos hσ],hs⟩
          · cases h
        | succ _=>cases h
      | bp id ver off=>
        cases off with
        | succ _=>cases h
        | zero=>
          simp only [pr] at h ⊢;split at h
          · rename_i v' ds hsid;split at h
            · rename_i hv;split at h
              · rename_i x s' m' hp;split at h
                · cases h
                · rename_i hid';obtain rfl:=qh h;have hid:=hs id (hM id (qv ..));rw [hsid] at hid;obtain ⟨t,e1,g1⟩:=zEU hp (fun i hi=>hM i (qn _ (qw _ hi))) hs;exact ⟨_,by simp only [hid];rw [qb hv,e1];simp only;rw [qc hid'],zbb g1 id _⟩
              · cases h
            · cases h
          · rename_i v' σ x hsid;split at h
            · rename_i hv;split at h
              · rename_i hσ;obtain rfl:=qh h;have hid:=hs id (hM id (qv ..));rw [hsid] at hid;exact ⟨s2,by simp only [hid];rw [qb hv,dif_pos hσ],hs⟩
              · cases h
            · cases h
          · cases h
      | _=>cases h
  | bool | int _ | str | fn _ _ | opq=>
    intro cs s m0 q h M hM s2 hs
    cases cs with
    | nil=>cases h
    | cons c r=>
      cases c with
      | imm σ x=>
        simp only [pr] at h ⊢;split at h
        · rename_i hσ;obtain rfl:=qh h;exact ⟨s2,by rw [dif_pos hσ],hs⟩
        · cases h
      | _=>cases h
def RepA (m:Mem) (N:Nat->Prop) (a:Ty) (x:a.den) (u:Value) (F:List Nat):Prop:=
 if a.isAgg=true then ∃cs,u= .agg ⟨cs⟩∧RepT m N a x cs F else RepT m N a x [u] F
def RepAs (m:Mem) (N:Nat->Prop):(τs:Ty)->τs.den->List Value->List Nat->Prop
 | .nil,_,us,F=>us= []∧F= []
 | .cons a r,x,u::us,F=> ∃F1 F2,F=F1++F2∧RepA m N a x.1 u F1∧RepAs m N r x.2 us F2
 | _,_,_,_=>False
theorem RepA.mono {m m':Mem} {N N':Nat->Prop} (hN: ∀b,N b->N' b∧m' b=m b) {a:Ty} {x:a.den} {u:Value} {F:List Nat} (hF: ∀g∈F,m' g=m g) (h:RepA m N a x u F):RepA m' N' a x u F:=by
 unfold RepA at *;split
 ·rename_i ha;rw [qb ha] at h;obtain ⟨cs,h1,h2⟩:=h;exact ⟨cs,h1,RepT.mono hN hF h2⟩
 ·rename_i ha;rw [qc ha] at h;exact RepT.mono hN hF h
theorem RepAs.mono {m m':Mem} {N N':Nat->Prop} (hN: ∀b,N b->N' b∧m' b=m b): ∀ {τs:Ty} {x:τs.den} {us:List Value} {F:List Nat},(∀g∈F,m' g=m g)->RepAs m N τs x us F->RepAs m' N' τs x us F
 | .nil,_,_,_,_,h=>h
 | .cons a r,_,_::_,_,hF,⟨F1,F2,e,h1,h2⟩=>by
  subst e;exact ⟨F1,F2,rfl,h1.mono hN (fun g hg=>hF g (qw _ hg)),RepAs.mono hN (fun g hg=>hF g (qB _ hg)) h2⟩
theorem RepT.flat {m:Mem} {N N':Nat->Prop}: ∀ {τ:Ty} {x:τ.den} {cs:List Value} {F:List Nat},τ.flat=true->RepT m N τ x cs F->RepT m N' τ x cs F
 | .bool,_,_,_,_,h | .int _,_,_,_,_,h | .str,_,_,_,_,h | .nil,_,_,_,_,h=>h
 | .own e,xs,_,_,hf,h=>by
  rcases h with h | ⟨g,cap,c,T,es,Fs,h1,h2,h3,h4,h5,h6,h7,h8,h9,h10⟩
  ·exact .inl h
  ·exact .inr ⟨g,cap,c,T,es,Fs,h1,h2,h3,h4,h5,h6,h7,fun i hi hi' hi''=>RepT.flat (τ:=e) hf (h8 i hi hi' hi''),h9,h10⟩
 | .agg fs,_,_,_,hf,h=>RepT.flat (τ:=fs) hf h
 | .cons a r,_,_,_,hf,⟨c1,c2,F1,F2,h1,h2,h3,h4⟩=>by
  simp only [Ty.flat,qq] at hf
  exact ⟨c1,c2,F1,F2,h1,h2,RepT.flat hf.1 h3,RepT.flat hf.2 h4⟩
 | .sl _,_,_,_,hf,_ | .ptr _,_,_,_,hf,_ | .box _,_,_,_,hf,_ | .fn _ _,_,_,_,hf,_ | .tree,_,_,_,hf,_ | .mv _,_,_,_,hf,_ | .imap _,_,_,_,hf,_ | .iter _,_,_,_,hf,_ | .sb _ _,_,_,_,hf,_ | .optr _,_,_,_,hf,_=>by simp [Ty.flat] at hf
 | .unk,_,_,_,_,h | .opq,_,_,_,_,h=>h
 | .map e,_,_,_,hf,⟨g,es,clock,h1,h2,h3,h4,h5⟩=>⟨g,es,clock,h1,h2,h3,fun i h h'=>⟨(h4 i h h').1,RepT.flat hf (h4 i h h').2⟩,h5⟩
theorem RepA.flat {m:Mem} {N N':Nat->Prop} {a:Ty} {x:a.den} {u:Value} {F:List Nat} (hf:a.flat=true) (h:RepA m N a x u F):RepA m N' a x u F:=by
 unfold RepA at *;split
 ·rename_i ha;rw [qb ha] at h;obtain ⟨cs,h1,h2⟩:=h;exact ⟨cs,h1,h2.flat hf⟩
 ·rename_i ha;rw [qc ha] at h;exact RepT.flat hf h
theorem RepAs.flat {m:Mem} {N N':Nat->Prop}: ∀ {τs:Ty} {x:τs.den} {us:List Value} {F:List Nat},τs.flat=true->RepAs m N τs x us F->RepAs m N' τs x us F
 | .nil,_,_,_,_,h=>h
 | .cons a r,_,_::_,_,hf,⟨F1,F2,e,h1,h2⟩=>by
  simp only [Ty.flat,qq] at hf;exact ⟨F1,F2,e,h1.flat hf.1,RepAs.flat hf.2 h2⟩
def RepVs (m:Mem) (N:Nat->Prop) (s:Sto) (hd:Nat->Value):List V->List Value->Prop
 | [],[]=>True
 | v::vs,u::us=>RepV m N s hd v u∧RepVs m N s hd vs us
 | _,_=>False
theorem RepVs.goes {m m':Mem} {N N':Nat->Prop} {s s':Sto} {hd hd':Nat->Value} (hN: ∀b,N b->N' b∧m' b=m b) (g:Goes s s' hd hd'): ∀ {vs:List V} {us:List Value},RepVs m N s hd vs us->RepVs m' N' s' hd' vs us
 | [],[],_=>trivial
 | _::_,_::_,⟨h1,h2⟩=>⟨RepV.goes hN g h1,RepVs.goes hN g h2⟩
theorem RepVs.append {m:Mem} {N:Nat->Prop} {s:Sto} {hd:Nat->Value}: ∀ {a b:List V} {u v:List Value},RepVs m N s hd a u->RepVs m N s hd b v->RepVs m N s hd (a++b) (u++v)
 | [],_,[],_,_,h=>h
 | _::_,_,_::_,_,⟨h1,h2⟩,h=>⟨h1,RepVs.append h2 h⟩
structure PrsOK (lend:Bool) (m:Mem) (N:Nat->Prop) (s:Sto) (hd:Nat->Value) (F:Nat->List Nat) (size:Nat) (m0:List Nat) (τs:Ty) (x:τs.den) (s':Sto) (m1:List Nat) (us:List Value) (N':Nat->Prop) (F':Nat->List Nat) (G:List Nat):Prop where
 rep:RepAs m (Sn lend N' s' F') τs x us G
 inv:SInv m N' s' hd F' size
 goes:Goes s s' hd hd
 vers: ∀i,(s' i).1=(s i).1
 up: ∀k,N k->N' k
 new: ∀k,N' k->N k∨ ∃i,k∈F i
 sub: ∀i k,k∈F' i->k∈F i
 nod:G.Nodup
 own: ∀k∈G,(∃i,k∈F i)∧ ¬N' k∧ ∀i,k∉F' i
 acc: ∀i∈m0,i∈m1
 loc: ∀i,i∉m1->s' i=s i∧F' i=F i
 keep: ∀i,(s i).2.isL=true->s' i=s i∧F' i=F i
 vk: ∀i (e:Ty) (xs:List e.den),(s' i).2= .vec e xs->s' i=s i∧F' i=F i
 lv: ∀i,(s' i).2.isL=true->F' i=F i∧(s' i=s i∨ ∃(e:Ty) (xs:List e.den),s' i=((s i).1,.lvec e xs)∧(s i).2= .vec e xs)
section
variable {m : Mem} {hd : Nat -> Value} {size : Nat}
theorem zxb (lend:Bool): ∀(τs:Ty) (vs:List V) (s:Sto) (m0:List Nat) (q:Pr τs.den),prFs lend τs vs s m0=some q-> ∀ {N:Nat->Prop} {F:Nat->List Nat},SInv m N s hd F size-> ∀ {us:List Value},RepVs m N s hd vs us->
  ∃N' F' G,PrsOK lend m N s hd F size m0 τs q.x q.s q.m us N' F' G:=by
 intro τs
 induction τs with
 | nil=>
  intro vs s m0 q h N F I us hv
  cases vs with
  | nil=>
   obtain rfl:=qh h
   cases us with
   | nil=>exact ⟨N,F,[],⟨rfl,rfl⟩,I,Goes.refl s hd,fun _=>rfl,fun _ h=>h,fun _ h=> .inl h,fun _ _ h=>h,List.nodup_nil,by simp,fun _ h=>h,fun _ _=>⟨rfl,rfl⟩,fun _ _=>⟨rfl,rfl⟩,fun _ _ _ _=>⟨rfl,rfl⟩,fun _ _=>⟨rfl,.inl rfl⟩⟩
   | cons _ _=>exact hv.elim
  | cons _ _=>cases h
 | cons a r _ ihr=>
  intro vs s m0 q h N F I us hv
  cases vs with
  | nil=>cases h
  | cons v vs=>
   cases us with
   | nil=>exact hv.elim
   | cons u us=>
    simp only [prFs] at h;split at h
    ·rename_i hfit;split at h
     ·rename_i x s1 m1 hp;split at h
      ·rename_i q' hq;obtain rfl:=qh h;obtain ⟨hv1,hv2⟩:=hv
       have key: ∃cs,RepCs m N s hd v.cells cs∧(∀N' G,RepT m N' a x cs G->RepA m N' a x u G):=by
        cases v with
        | one c=>
         simp [V.fits] at hfit;refine ⟨[u],⟨hv1,trivial⟩,fun N' G k=>?_⟩
         unfold RepA;rw [qc (by simp [hfit.1])];exact k
        | agg cs=>
         obtain ⟨ws,e,h1⟩:=hv1;refine ⟨ws,h1,fun N' G k=>?_⟩
         unfold RepA;rw [qb (show a.isAgg=true from hfit)];exact ⟨ws,e,k⟩
        | _=>simp [V.fits] at hfit
       obtain ⟨cs,hcs,hA⟩:=key;obtain ⟨v1,v2,N1,F1,G1,k⟩:=zBq lend a v.cells s m0 _ hp I hcs
       replace k:PrOK lend m N s hd F size m0 a x [] s1 m1 cs v1 v2 N1 F1 G1:=k
       have e2:=RepCs.nil_inv k.rest;have e1:=k.vs;rw [e2,qP] at e1;subst e1;obtain ⟨N2,F2,G2,k2⟩:=ihr vs s1 m1 q' hq k.inv (RepVs.goes (fun b hb=>⟨k.up b hb,rfl⟩) k.goes hv2);refine ⟨N2,F2,G1++G2,?_⟩;exact
       {rep:=⟨G1,G2,rfl,(hA _ G1 k.rep).mono (fun b hb=>⟨Sn.go k2.up k2.keep hb,rfl⟩) (fun _ _=>rfl),k2.rep⟩
        inv:=k2.inv
        goes:=k.goes.trans k2.goes
        vers:=fun i=>(k2.vers i).trans (k.vers i)
        up:=fun j hj=>k2.up j (k.up j hj)
        new:=fun j hj=>by
         rcases k2.new j hj with h | ⟨i,h⟩
         ·exact k.new j h
         ·exact .inr ⟨i,k.sub i j h⟩
        sub:=fun i j hj=>k.sub i j (k2.sub i j hj)
        nod:=by
         rw [qN];refine ⟨k.nod,k2.nod,fun j hj j' hj' e=>?_⟩;subst e;obtain ⟨⟨i,hi⟩,_⟩:=k2.own j hj';exact (k.own j hj).2.2 i hi
        own:=fun j hj=>by
         rcases qr.1 hj with hj | hj
         ·refine ⟨(k.own j hj).1,fun hn=>?_,fun i hi=>(k.own j hj).2.2 i (k2.sub i j hi)⟩;rcases k2.new j hn with h | ⟨i,h⟩
          ·exact (k.own j hj).2.1 h
          ·exact (k.own j hj).2.2 i h
         ·obtain ⟨⟨i,hi⟩,h3,h4⟩:=k2.own j hj;exact ⟨⟨i,k.sub i j hi⟩,h3,h4⟩
        acc:=fun i hi=>k2.acc i (k.acc i hi)
        loc:=fun i hi=>by
         have hi1:i∉m1:=fun h=>hi (k2.acc i h)
         exact ⟨(k2.loc i hi).1.trans (k.loc i hi1).1,(k2.loc i hi).2.trans (k.loc i hi1).2⟩
        keep:=fun i hi=>by
         have q1:=k.keep i hi;have q2:=k2.keep i (by rw [q1.1];exact hi);exact ⟨q2.1.trans q1.1,q2.2.trans q1.2⟩
        vk:=fun i e xs hi=>by
         have q2:=k2.vk i e xs hi;have q1:=k.vk i e xs (by rw [<-q2.1];exact hi);exact ⟨q2.1.trans q1.1,q2.2.trans q1.2⟩
        lv:=fun i hi=>by
         obtain ⟨e2,h⟩:=k2.lv i hi;rcases h with h | ⟨e,xs,h3,h4⟩
         ·obtain ⟨e1,h'⟩:=k.lv i (by rw [<-h];exact hi);rcases h' with h' | ⟨e,xs,h3,h4⟩
          ·exact ⟨e2.trans e1,.inl (h.trans h')⟩
          ·exact ⟨e2.trans e1,.inr ⟨e,xs,by rw [h,h3],h4⟩⟩
         ·obtain ⟨q1,q2⟩:=k.vk i e xs h4;exact ⟨e2.trans q2,.inr ⟨e,xs,by rw [h3,q1],by rw [<-q1];exact h4⟩⟩}
      ·cases h
     ·cases h
    ·cases h
 | _=>intro vs s m0 q h;cases vs<;>cases h
theorem zJF (lend:Bool): ∀(τs:Ty) (vs:List V) (s:Sto) (m0:List Nat) (q:Pr τs.den),prFs lend τs vs s m0=some q->(∀i∈m0,i∈q.m)∧ ∀i,i∉q.m->q.s i=s i:=by
 intro τs
 induction τs with
 | nil=>
  intro vs s m0 q h
  cases vs with
  | nil=>obtain rfl:=qh h;exact ⟨fun _ h=>h,fun _ _=>rfl⟩
  | cons _ _=>cases h
 | cons a r _ ihr=>
  intro vs s m0 q h
  cases vs with
  | nil=>cases h
  | cons v vs=>
   simp only [prFs] at h;split at h
   ·split at h
    ·rename_i x s1 m1 hp;split at h
     ·rename_i q' hq;obtain rfl:=qh h;have h1:=zFn lend a _ _ _ _ hp;have h2:=ihr _ _ _ _ hq;exact ⟨fun i hi=>h2.1 i (h1.1 i hi),fun i hi=>(h2.2 i hi).trans (h1.2 i (fun h=>hi (h2.1 i h)))⟩
     ·cases h
    ·cases h
   ·cases h
 | _=>intro vs s m0 q h;cases vs<;>cases h
theorem zA8 (lend:Bool): ∀(τs:Ty) (vs:List V) (s:Sto) (m0:List Nat) (q:Pr τs.den),prFs lend τs vs s m0=some q-> ∀(M:List Nat),(∀i∈q.m,i∈M)-> ∀(s2:Sto),(∀i∈M,s2 i=s i)->
  ∃q2:Pr τs.den,prFs lend τs vs s2 m0=some q2∧q2.x=q.x∧q2.m=q.m∧ ∀i∈M,q2.s i=q.s i:=by
 intro τs
 induction τs with
 | nil=>
  intro vs s m0 q h M hM s2 hs
  cases vs with
  | nil=>obtain rfl:=qh h;exact ⟨_,rfl,rfl,rfl,hs⟩
  | cons _ _=>cases h
 | cons a r _ ihr=>
  intro vs s m0 q h M hM s2 hs
  cases vs with
  | nil=>cases h
  | cons v vs=>
   simp only [prFs] at h ⊢;split at h
   ·rename_i hfit;split at h
    ·rename_i x s1 m1 hp;split at h
     ·rename_i q' hq;obtain rfl:=qh h;have h2:=zJF lend r _ _ _ _ hq;obtain ⟨t1,e1,g1⟩:=zsj lend a _ _ _ _ hp M (fun i hi=>hM i (h2.1 i hi)) s2 hs;obtain ⟨q2,e2,x2,m2,g2⟩:=ihr _ _ _ _ hq M hM t1 g1;refine ⟨{x:=(x,q2.x),rest:= [],s:=q2.s,m:=q2.m},?_,by simp only [x2],m2,g2⟩;rw [qb hfit,e1];simp only [e2]
     ·cases h
    ·cases h
   ·cases h
 | _=>intro vs s m0 q h;cases vs<;>cases h
theorem RepA.rep {N:Nat->Prop} {a:Ty} {x:a.den} {u:Value} {F:List Nat} (h:RepA m N a x u F): ∃cs,RepT m N a x cs F∧(if a.isAgg=true then u= .agg ⟨cs⟩ else cs= [u]):=by
 unfold RepA at h;split at h
 ·rename_i ha;obtain ⟨cs,h1,h2⟩:=h;exact ⟨cs,h2,by rw [qb ha];exact h1⟩
 ·rename_i ha;exact ⟨[u],h,by rw [qc ha]⟩
theorem zsQ {N:Nat->Prop} {s:Sto} {hd:Nat->Value} {ag:Bool} {cs:List C} {ws:List Value} {u:Value} (h:RepCs m N s hd cs ws) (hu:if ag=true then u= .agg ⟨ws⟩ else ws= [u]):RepV m N s hd (V.ofCells ag cs) u∧RepP m N s hd (ag,cs) u:=by
 cases ag with
 | true=>exact ⟨⟨ws,hu,h⟩,⟨ws,hu,h⟩⟩
 | false=>
  simp at hu;subst hu;have hl:=h.len
  match cs,hl with
  | [c],_=>exact ⟨h.1,h.1⟩
theorem zD3 {N:Nat->Prop}: ∀(τs:Ty) (x:τs.den) (s:Sto) (b:Nat) {hd:Nat->Value} {F:Nat->List Nat},SInv m N s hd F size-> ∀ {us:List Value} {G:List Nat},RepAs m N τs x us G->Fresh N F size G->
  ∃hd' F',InjOK m N s hd F size G (injFs τs x s b).s (injFs τs x s b).ids b (injFs τs x s b).b hd' F'∧RepVs m N (injFs τs x s b).s hd' (injFs τs x s b).cs us∧
   RepPs m N (injFs τs x s b).s hd' ((injFs τs x s b).cs.map V.pair) us:=by
 intro τs
 induction τs with
 | nil=>
  intro x s b hd F I us G h hG;obtain ⟨rfl,rfl⟩:=h
  exact ⟨hd,F,InjOK.none I [] b,trivial,trivial⟩
 | cons a r _ ihr=>
  intro x s b hd F I us G h hG
  cases us with
  | nil=>exact h.elim
  | cons u us=>
   obtain ⟨F1,F2,e,h1,h2⟩:=h;subst e;obtain ⟨cs,hr,hu⟩:=h1.rep;obtain ⟨hd1,Fa,k1,r1⟩:=zHw a x.1 s b I hr hG.left;obtain ⟨hd2,Fb,k2,r2,p2⟩:=ihr x.2 (inj a x.1 s b).s (inj a x.1 s b).b k1.inv h2 (hG.right k1.sub);have k:=zsQ (r1.goes (fun b hb=>⟨hb,rfl⟩) k2.goes) hu;refine ⟨hd2,Fb,k1.seq k2,⟨k.1,r2⟩,?_,p2⟩
   have e: ∀(ag:Bool) (cs:List C),(ag=false-> ∃c,cs= [c])->(V.ofCells ag cs).pair=(ag,cs):=by
    intro ag cs hc
    cases ag with
    | true=>rfl
    | false=>obtain ⟨c,rfl⟩:=hc rfl;rfl
   show RepP m N _ hd2 (V.ofCells a.isAgg (inj a x.1 s b).cs).pair u;rw [e]
   ·exact k.2
   ·intro ha;rw [qc (by simp [ha])] at hu;have hl:=r1.len;rw [hu] at hl
    match (inj a x.1 s b).cs,hl with
    | [c],_=>exact ⟨c,rfl⟩
 | _=>intro x s b hd F I us G h;cases us<;>exact h.elim
def RepBack (m:Mem) (N:Nat->Prop):(io:List Bool)->(τs:Ty)->(ioTy io τs).den->List Value->List Nat->Prop
 | true::io,.cons a r,z,u::us,F=> ∃F1 F2,F=F1++F2∧RepA m N a z.1 u F1∧RepBack m N io r z.2 us F2
 | false::io,.cons _ r,z,_::us,F=>RepBack m N io r z us F
 | [],.nil,_,[],F=>F= []
 | _,_,_,_,_=>False
theorem RepBack.mono {m m':Mem} {N N':Nat->Prop} (hN: ∀b,N b->N' b∧m' b=m b): ∀ {io:List Bool} {τs:Ty} {z:(ioTy io τs).den} {us:List Value} {F:List Nat},(∀g∈F,m' g=m g)->RepBack m N io τs z us F->RepBack m' N' io τs z us F
 | true::io,.cons a r,_,_::_,_,hF,⟨F1,F2,e,h1,h2⟩=>by
  subst e
  exact ⟨F1,F2,rfl,h1.mono hN (fun g hg=>hF g (qw _ hg)),RepBack.mono hN (fun g hg=>hF g (qB _ hg)) h2⟩
 | false::io,.cons _ r,_,_::_,_,hF,h=>RepBack.mono (io:=io) (τs:=r) hN hF h
 | [],.nil,_,[],_,_,h=>h
theorem RepBack.flat {m:Mem} {N N':Nat->Prop}: ∀ {io:List Bool} {τs:Ty} {z:(ioTy io τs).den} {us:List Value} {F:List Nat},(ioTy io τs).flat=true->RepBack m N io τs z us F->RepBack m N' io τs z us F
 | true::io,.cons a r,_,_::_,_,hf,⟨F1,F2,e,h1,h2⟩=>by
  simp only [ioTy,Ty.flat,qq] at hf
  exact ⟨F1,F2,e,h1.flat hf.1,RepBack.flat hf.2 h2⟩
 | false::io,.cons _ r,_,_::_,_,hf,h=>RepBack.flat (io:=io) (τs:=r) hf h
 | [],.nil,_,[],_,_,h=>h
structure BackOK (m:Mem) (N:Nat->Prop) (s:Sto) (hd:Nat->Value) (F:Nat->List Nat) (size:Nat) (G:List Nat) (s':Sto) (ids:List Nat) (b b':Nat) (hd':Nat->Value) (F':Nat->List Nat):Prop where
 inv:SInv m N s' hd' F' size
 goes:Goes s s' hd hd'
 loc: ∀i,i∉ids->s' i=s i∧F' i=F i∧hd' i=hd i
 sub: ∀i k,k∈F' i->k∈F i∨k∈G
theorem BackOK.seq {N:Nat->Prop} {s s1 s2:Sto} {hd hd1 hd2:Nat->Value} {F F1 F2:Nat->List Nat} {G1 G2:List Nat} {i1 i2:List Nat} {b b1 b2:Nat} (h1:BackOK m N s hd F size G1 s1 i1 b b1 hd1 F1) (h2:BackOK m N s1 hd1 F1 size G2 s2 i2 b1 b2 hd2 F2):
  BackOK m N s hd F size (G1++G2) s2 (i1++i2) b b2 hd2 F2 where
 inv:=h2.inv
 goes:=h1.goes.trans h2.goes
 loc:=fun i hi=>by
  have a1:=h1.loc i (fun h=>hi (qw _ h));have a2:=h2.loc i (fun h=>hi (qB _ h));exact ⟨a2.1.trans a1.1,a2.2.1.trans a1.2.1,a2.2.2.trans a1.2.2⟩
 sub:=fun i k hk=>by
  rcases h2.sub i k hk with h | h
  ·rcases h1.sub i k h with h | h
   ·exact .inl h
   ·exact .inr (qw _ h)
  ·exact .inr (qB _ h)
theorem zvn {N:Nat->Prop} {s:Sto} {F:Nat->List Nat} (I:SInv m N s hd F size) (id v:Nat) (o o':Obj) (hs:s id=(v,o')) (G:List Nat) (hG:Fresh N F size G)
  (h1:o.isV=true->o'.isV=true∧o.esz=o'.esz∧o'.vlen<=o.vlen) (h2:o.isB=true->o'.isB=true) (ho: ∀s',Goes s s' hd hd->ObjRep m N s' hd o (hd id) G) (b:Nat):
  BackOK m N s hd F size G (s.set id (v,o)) [id] b b hd (fun i=>if i=id then G else F i):=by
 have hg:=Goes.set_like (s:=s) (hd:=hd) id o (by rw [hs];exact h1) (by rw [hs];exact h2);have hv:(s id).1=v:=by rw [hs]
 rw [hv] at hg;refine ⟨I.upd id _ G (ql _) (fun b hb=>⟨hb,rfl⟩) (fun k hk=>⟨I.ltN k hk,fun i _ hki=>I.sep i k hki hk,fun h=>hG.n k h hk⟩) (fun _ _ _ _=>rfl) hG.nod (fun k hk=>⟨hG.lt k hk,fun i _=>hG.f k hk i⟩) hg (fun _ _=>rfl) (ho _ hg),hg,fun i hi=>?_,fun i k hk=>?_⟩
 ·have e:i≠id:=fun h=>hi (by simp [h])
  exact ⟨Sto.set_ne _ _ e,by simp [e],rfl⟩
 ·by_cases e:i=id
  ·simp only [e,qf] at hk;exact .inr hk
  ·simp only [e,qe] at hk;exact .inl hk
theorem BackOK.none {N:Nat->Prop} {s:Sto} {F:Nat->List Nat} (I:SInv m N s hd F size) (G:List Nat) (b:Nat):BackOK m N s hd F size G s [] b b hd F:=
 ⟨I,Goes.refl s hd,fun _ _=>⟨rfl,rfl,rfl⟩,fun _ _ h=> .inl h⟩
theorem zIH {N:Nat->Prop}: ∀(τ:Ty) (cs:List C) (z:τ.den) (s:Sto) (b:Nat) (l:Inj (List C)),backCs τ cs z s b=some l-> ∀ {hd:Nat->Value} {F:Nat->List Nat},SInv m N s hd F size-> ∀ {v1 v2:List Value} {G:List Nat},RepCs m N s hd cs (v1++v2)->
  RepT m N τ z v1 G->Fresh N F size G-> ∃hd' F',BackOK m N s hd F size G l.s l.ids b l.b hd' F'∧RepCs m N l.s hd' l.cs v2:=by
 intro τ
 induction τ with
 | agg fs ih=>intro cs z s b l h hd F I v1 v2 G hc hz hG;exact ih cs z s b l h I hc hz hG
 | nil=>
  intro cs z s b l h hd F I v1 v2 G hc hz hG;obtain rfl:=qh h;obtain ⟨rfl,rfl⟩:=hz
  exact ⟨hd,F,BackOK.none I [] b,hc⟩
 | cons a r iha ihr=>
  intro cs z s b l h hd F I v1 v2 G hc hz hG;simp only [backCs] at h;split at h
  ·cases h
  ·rename_i p hp;split at h
   ·cases h
   ·rename_i q hq;obtain rfl:=qh h;obtain ⟨c1,c2,F1,F2,rfl,rfl,z1,z2⟩:=hz;rw [qE] at hc;obtain ⟨hd1,G1,k1,r1⟩:=iha cs z.1 s b p hp I hc z1 hG.left;obtain ⟨hd2,G2,k2,r2⟩:=ihr p.cs z.2 p.s p.b q hq k1.inv r1 z2 (hG.right k1.sub)
    exact ⟨hd2,G2,k1.seq k2,r2⟩
 | own e _=>
  intro cs z s b l h hd F I v1 v2 G hc hz hG;have hl:=hz.len
  match v1,hl with
  | [u],_=>
   simp only [backCs] at h;split at h
   ·rename_i id ver r;split at h
    ·rename_i w e' xs hs;split at h
     ·rename_i hcond;obtain ⟨rfl,rfl⟩:=hcond;obtain rfl:=qh h;have hu:=RepC.own_hd hc.1 hs rfl;subst hu;have hob:=I.obj id;rw [hs] at hob;obtain ⟨_,a1,cap1,hl1⟩:=hob;obtain ⟨a2,cap2,hl2⟩:=RepT.own_len hz;rw [hl1] at hl2;injection hl2 with _ hl _
      have k:=zvn I id w (.vec e' z) _ hs G hG (fun _=>⟨rfl,rfl,by show List.length xs<=List.length z;omega⟩) (by simp [Obj.isB]) (fun s' _=>hz) b;exact ⟨_,_,k,RepCs.goes (fun b hb=>⟨hb,rfl⟩) k.goes hc.2⟩
     ·cases h
    ·cases h
   ·obtain rfl:=qh h;exact ⟨hd,F,BackOK.none I G b,hc.2⟩
   ·cases h
 | box e _=>intro cs z s b l h;cases h
 | map _ _ | mv _ _=>
  intro cs z s b l h;simp only [backCs,Ty.isImm] at h
  cases cs<;>simp at h
 | bool | int _ | str | tree | unk | opq | imap _ _ | iter _ _ | optr _ _ | sb _ _ | sl _ _ | ptr _ _ | fn _ _ _=>
  intro cs z s b l h hd F I v1 v2 G hc hz hG;have hl:=hz.len
  match v1,hl with
  | [u],_=>
   cases cs with
   | nil=>cases h
   | cons c r=>
    simp only [backCs] at h;split at h
    ·obtain rfl:=qh h;exact ⟨hd,F,BackOK.none I G b,hc.2⟩
    ·cases h
theorem zJJ {N:Nat->Prop} {v:V} {s:Sto} {b:Nat} {F:Nat->List Nat} (I:SInv m N s hd F size) {u:Value} (hv:RepV m N s hd v u): ∀(a:Ty) (z:a.den) (l:Inj Unit),back1 v s b a z=some l-> ∀ {G:List Nat},
  RepA m N a z u G->Fresh N F size G-> ∃hd' F',BackOK m N s hd F size G l.s l.ids b l.b hd' F':=by
 intro a z l h G hz hG
 cases a with
 | own e=>
  have hz':RepT m N (.own e) z [u] G:=by simpa [RepA,Ty.isAgg] using hz
  simp only [back1] at h;split at h
  ·rename_i id ver;split at h
   ·rename_i w e' xs hs;split at h
    ·rename_i hc;obtain ⟨rfl,rfl⟩:=hc;obtain rfl:=qh h;have hu:=RepC.own_hd (m:=m) (N:=N) (show RepC m N s hd (.own id w) u from hv) hs rfl;subst hu;have hob:=I.obj id;rw [hs] at hob;obtain ⟨_,a1,cap1,hl1⟩:=hob;obtain ⟨a2,cap2,hl2⟩:=RepT.own_len hz';rw [hl1] at hl2;injection hl2 with _ hl _
     exact ⟨_,_,zvn I id w (.vec e' z) _ hs G hG (fun _=>⟨rfl,rfl,by show List.length xs<=List.length z;omega⟩) (by simp [Obj.isB]) (fun s' _=>hz') b⟩
    ·cases h
   ·cases h
  ·obtain rfl:=qh h;exact ⟨hd,F,I,Goes.refl s hd,fun _ _=>⟨rfl,rfl,rfl⟩,fun _ _ h=> .inl h⟩
  ·cases h
 | box e=>
  have hz':RepT m N (.box e) z [u] G:=by simpa [RepA,Ty.isAgg] using hz
  simp only [back1] at h;split at h
  ·rename_i id ver;split at h
   ·rename_i w hs;split at h
    ·rename_i hc;subst hc;obtain rfl:=qh h;obtain ⟨g,es,T,G',e1,hc,hr,e2⟩:=hz';subst e2;have hG':Fresh N F size G':=⟨(List.nodup_cons.1 hG.nod).2,fun k hk=>hG.lt k (qn _ hk),fun k hk=>hG.n k (qn _ hk),fun k hk=>hG.f k (qn _ hk)⟩;obtain ⟨hd1,F1,k1,r1⟩:=zHw e z s b I hr hG';have hu:=(RepV.goes (v:= .one (.bp id w 0)) (fun b hb=>⟨hb,rfl⟩) k1.goes hv:RepC m N _ hd1 (.bp id w 0) u);have hob:=k1.inv.obj id;rw [hs] at hob;obtain ⟨g',e3,e4⟩:=hu.2.2 (by rw [hs]) (by rw [hs];rfl)
     have e5:g'=g:=by
      rw [e4] at e1;simpa using e1
     subst e5
     have hg:Fresh N F1 size [g']:=⟨by simp,by simpa using hG.lt g' (by simp),by simpa using hG.n g' (by simp),fun k hk i hi=>by
      simp at hk;subst hk;rcases k1.sub i k hi with h | h
      ·exact hG.f k (by simp) i h
      ·exact (List.nodup_cons.1 hG.nod).1 h⟩
     have k2:=zvn k1.inv id w (.box (inj e z s b).cs) _ hs [g'] hg (by simp [Obj.isV]) (fun _=>rfl) (fun s' hgo=>⟨g',es,T,e3,hc,r1.goes (fun b hb=>⟨hb,rfl⟩) hgo,rfl⟩) (inj e z s b).b;have k1':BackOK m N s hd F size G' (inj e z s b).s (inj e z s b).ids b (inj e z s b).b hd1 F1:=⟨k1.inv,k1.goes,k1.loc,k1.sub⟩;have k3:=k1'.seq k2;refine ⟨_,_,k3.inv,k3.goes,k3.loc,fun i k hk=>?_⟩;rcases k3.sub i k hk with h | h
     ·exact .inl h
     ·rcases qr.1 h with h | h
      ·exact .inr (qn _ h)
      ·simp at h;subst h;exact .inr (qv ..)
    ·cases h
   ·cases h
  ·cases h
 | map e=>
  have hz':RepT m N (.map e) z [u] G:=by simpa [RepA,Ty.isAgg] using hz
  simp only [back1] at h;split at h
  ·rename_i id ver;split at h
   ·rename_i w hs;split at h
    ·rename_i hc;subst hc;obtain rfl:=qh h;have hv':RepC m N s hd (.mp id w) u:=hv;have hu:u=hd id:=hv'.2.2 (by rw [hs]) (by rw [hs];rfl);subst hu;exact ⟨_,_,zvn I id w (.mapo e z) _ hs G hG (by simp [Obj.isV]) (fun _=>rfl) (fun s' _=>hz') b⟩
    ·cases h
   ·cases h
  ·cases h
 | sb T te=>
  have hz':RepT m N (.sb T te) z [u] G:=by simpa [RepA,Ty.isAgg] using hz
  simp only [back1] at h;split at h
  ·rename_i id ver;split at h
   ·rename_i w hs;split at h
    ·rename_i hc;subst hc;obtain rfl:=qh h;have hv':RepC m N s hd (.mp id w) u:=hv;have hu:u=hd id:=hv'.2.2 (by rw [hs]) (by rw [hs];rfl);subst hu;exact ⟨_,_,zvn I id w (.sbo T te z) _ hs G hG (by simp [Obj.isV]) (fun _=>rfl) (fun s' _=>hz') b⟩
    ·cases h
   ·cases h
  ·cases h
 | agg fs=>
  simp only [back1] at h;split at h
  ·rename_i cs;split at h
   ·rename_i s' b' ids hb;obtain rfl:=qh h
    obtain ⟨us,hus,hz'⟩: ∃us,u= .agg ⟨us⟩∧RepT m N (.agg fs) z us G:=by
     obtain ⟨cs',k1,k2⟩:=hz.rep;exact ⟨cs',by simpa [Ty.isAgg] using k2,k1⟩
    obtain ⟨vs,hvs,hcs⟩:=hv;rw [hus] at hvs;have hvs':us=vs:=by injection hvs with h1;injection h1
    subst hvs';obtain ⟨hd',F',k,_⟩:=zIH fs cs z s b _ hb I (v1:=us) (v2:= []) (by rw [qP];exact hcs) hz' hG;exact ⟨hd',F',k⟩
   ·cases h
  ·cases h
 | _=>cases h
theorem zLc {N:Nat->Prop}: ∀(io:List Bool) (τs:Ty) (vs:List V) (z:(ioTy io τs).den) (s:Sto) (b:Nat) (l:Inj Unit),back io τs vs z s b=some l-> ∀ {hd:Nat->Value} {F:Nat->List Nat},SInv m N s hd F size-> ∀ {us:List Value} {G:List Nat},RepVs m N s hd vs us->
  RepBack m N io τs z us G->Fresh N F size G-> ∃hd' F',BackOK m N s hd F size G l.s l.ids b l.b hd' F':=by
 intro io
 induction io with
 | nil=>
  intro τs vs z s b l h hd F I us G hv hz hG
  cases τs with
  | nil=>
   cases vs with
   | nil=>
    obtain rfl:=qh h
    cases us with
    | nil=>
     have e:G= []:=hz;subst e
     exact ⟨hd,F,I,Goes.refl s hd,fun _ _=>⟨rfl,rfl,rfl⟩,fun _ _ h=> .inl h⟩
    | cons _ _=>exact hv.elim
   | cons _ _=>cases h
  | _=>cases vs<;>cases h
 | cons i io ih=>
  intro τs vs z s b l h hd F I us G hv hz hG
  cases τs with
  | cons a r=>
   cases vs with
   | nil=>cases i<;>cases h
   | cons v vs=>
    cases us with
    | nil=>exact hv.elim
    | cons u us=>
     cases i with
     | false=>exact ih r vs z s b l h I hv.2 hz hG
     | true=>
      obtain ⟨G1,G2,e,h1,h2⟩:=hz;subst e;simp only [back] at h;split at h
      ·rename_i l1 hl1;split at h
       ·rename_i l2 hl2;obtain rfl:=qh h;obtain ⟨hd1,F1,k1⟩:=zJJ I hv.1 a z.1 l1 hl1 h1 hG.left;obtain ⟨hd2,F2,k2⟩:=ih r vs z.2 l1.s l1.b l2 hl2 k1.inv (RepVs.goes (fun b hb=>⟨hb,rfl⟩) k1.goes hv.2) h2 (hG.right k1.sub);exact ⟨hd2,F2,k1.seq k2⟩
       ·cases h
      ·cases h
  | _=>cases i<;>cases vs<;>cases h
end
end Go.Proofs.YtchkojfhcdcnmaaGreatMd.Ev
