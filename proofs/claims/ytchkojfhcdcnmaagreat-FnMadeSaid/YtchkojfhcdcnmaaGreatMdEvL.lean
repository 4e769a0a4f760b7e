/- Texts laid together: EvG, EvH, EvI, EvJ, EvK, EvL; no condition but those that each theorem names. -/
import Derived.Test.YtchkojfhcdcnmaaGreatMdEvF
import Derived.Laws.Slices
import Derived.Laws.MakeOwn
import Derived.Laws.BytesArg
import Derived.Laws.Small
import Derived.Laws.StructEq
import Derived.MapKept
import Derived.Laws.CopyRow
import Derived.Laws.OwnMore
namespace Go.Proofs.YtchkojfhcdcnmaaGreatMd.Ev
open Go
structure Ctx where
  w0:World
  N0:Nat->Prop
  F0:List Nat
  nt:Nat
  io:List Nat
  av:Nat->Value
structure Fr (X:Ctx) (w:World) (N:Nat->Prop) (F:Nat->List Nat):Prop where
  os:w.os=X.w0.os
  tape:w.tape=X.w0.tape
  output:w.output=X.w0.output
  size:X.w0.heap.size<=w.heap.size
  block: ∀k,k<X.w0.heap.size->k∉X.F0->w.heap[k]?=X.w0.heap[k]?
  up: ∀k,X.N0 k->N k
  new: ∀k,N k->X.N0 k∨X.w0.heap.size<=k∨k∈X.F0
  own: ∀i k,k∈F i->X.w0.heap.size<=k∨k∈X.F0
structure InvD (X:Ctx) (st:St) (a:Act) (w:World) (N:Nat->Prop) (hd:Nat->Value) (F:Nat->List Nat):Prop where
  s:SInv (memOf w) N st.o hd F w.heap.size
  t: ∀t,RepV (memOf w) N st.o hd (st.t t) (a.tmps.getD t undef)
  defers:a.defers= []
  size:a.tmps.size=X.nt
  io: ∀j∈X.io,a.tmps.getD j undef=X.av j
  fr:Fr X w N F
def Inv (X:Ctx) (st:St) (a:Act) (w:World):Prop:= ∃N hd F,InvD X st a w N hd F
structure Moves (w w':World) (W:List Nat):Prop where
  os:w'.os=w.os
  tape:w'.tape=w.tape
  output:w'.output=w.output
  size:w.heap.size<=w'.heap.size
  block: ∀k,k<w.heap.size->k∉W->w'.heap[k]?=w.heap[k]?
theorem Moves.refl (w:World):Moves w w []:=⟨rfl,rfl,rfl,ql _,fun _ _ _=>rfl⟩
theorem Moves.alloc (w:World) (o:Go.Obj):Moves w (w.alloc o) []:=⟨rfl,rfl,rfl,by simp,fun k hk _=>Go.heap_alloc_old w o hk⟩
theorem Moves.trans {w w1 w2:World} {W:List Nat} (h1:Moves w w1 W) (h2:Moves w1 w2 W):Moves w w2 W:=
  ⟨h2.os.trans h1.os,h2.tape.trans h1.tape,h2.output.trans h1.output,Nat.le_trans h1.size h2.size,fun k hk hW=>(h2.block k (Nat.lt_of_lt_of_le hk h1.size) hW).trans (h1.block k hk hW)⟩
theorem Moves.weaken {w w1:World} {W W':List Nat} (h1:Moves w w1 W) (h: ∀k∈W,k∈W'):Moves w w1 W':=
  ⟨h1.os,h1.tape,h1.output,h1.size,fun k hk hW=>h1.block k hk (fun h'=>hW (h k h'))⟩
theorem Moves.drew (w:World):Moves w w.drew []:=⟨rfl,rfl,rfl,ql _,fun _ _ _=>rfl⟩
theorem Fr.move {X:Ctx} {w w':World} {N N':Nat->Prop} {F F':Nat->List Nat} {W:List Nat} (h:Fr X w N F) (hm:Moves w w' W) (hW: ∀k∈W,∃i,k∈F i) (hup: ∀k,N k->N' k)
    (hnew: ∀k,N' k->N k∨(∃i,k∈F i)∨w.heap.size<=k) (hown: ∀i k,k∈F' i->(∃j,k∈F j)∨w.heap.size<=k):Fr X w' N' F' where
  os:=hm.os.trans h.os
  tape:=hm.tape.trans h.tape
  output:=hm.output.trans h.output
  size:=Nat.le_trans h.size hm.size
  block:=fun k hk hF=>by
    refine (hm.block k (Nat.lt_of_lt_of_le hk h.size) (fun hkW=>?_)).trans (h.block k hk hF);obtain ⟨i,hi⟩:=hW k hkW;rcases h.own i k hi with h' | h'
    · omega
    · exact hF h'
  up:=fun k hk=>hup k (h.up k hk)
  new:=fun k hk=>by
    rcases hnew k hk with h' | ⟨i,h'⟩ | h'
    · exact h.new k h'
    · exact .inr (h.own i k h')
    · exact .inr (.inl (Nat.le_trans h.size h'))
  own:=fun i k hk=>by
    rcases hown i k hk with ⟨j,h'⟩ | h'
    · exact h.own j k h'
    · exact .inl (Nat.le_trans h.size h')
def dstOK (X:Ctx) (d:Option Nat):Prop:= ∀t,d=some t->t<X.nt∧t∉X.io
theorem zEh (a:Act) (d:Nat) (v:Value) (h:d<a.tmps.size) (t:Nat):(a.put (some d) v).tmps.getD t undef=if t=d then v else a.tmps.getD t undef:=by
  simp only [Act.put,Array.getD_eq_getD_getElem?,Array.getElem?_setIfInBounds];by_cases e:t=d
  · subst e;simp [h]
  · rw [qc (fun h=>e h.symm),qc e]
theorem zJH (a:Act) (d:Option Nat) (v:Value):(a.put d v).tmps.size=a.tmps.size:=by cases d<;>simp [Act.put]
theorem zG5 (a:Act) (d:Option Nat) (v:Value):(a.put d v).defers=a.defers:=by cases d<;>rfl
theorem InvD.put {X:Ctx} {st:St} {a:Act} {w w':World} {N N':Nat->Prop} {hd hd':Nat->Value} {F F':Nat->List Nat} (I:InvD X st a w N hd F) {e:Eff} {d:Option Nat} (hdst:dstOK X d) {u:Value} {s':Sto}
    (hs:(st.app d e).o=s') (I':SInv (memOf w') N' s' hd' F' w'.heap.size) (hN: ∀b,N b->N' b∧memOf w' b=memOf w b) (g:Goes st.o s' hd hd') (fr:Fr X w' N' F') (hv:RepV (memOf w') N' s' hd' e.v u):
    InvD X (st.app d e) (a.put d u) w' N' hd' F' where
  s:=by rw [hs];exact I'
  t:=fun t=>by
    rw [hs];have ht:=RepV.goes hN g (I.t t)
    cases d with
    | none=>exact ht
    | some d=>
      rw [zEh a d u (by rw [I.size];exact (hdst d rfl).1)];show RepV _ _ _ _ (if t=d then e.v else st.t t) _;by_cases h:t=d
      · rw [qb h,qb h];exact hv
      · rw [qc h,qc h];exact ht
  defers:=by rw [zG5];exact I.defers
  size:=by rw [zJH];exact I.size
  io:=fun j hj=>by
    cases d with
    | none=>exact I.io j hj
    | some d=>
      rw [zEh a d u (by rw [I.size];exact (hdst d rfl).1),qc (fun h=>(hdst d rfl).2 (by rw [<-h];exact hj))];exact I.io j hj
  fr:=fr
theorem InvD.val {X:Ctx} {st:St} {a:Act} {w:World} {N:Nat->Prop} {hd:Nat->Value} {F:Nat->List Nat} (I:InvD X st a w N hd F) {v:V} {s:Sto} {r:List Nat} {d:Option Nat} (hdst:dstOK X d) {u:Value} (hv:RepV (memOf w) N st.o hd v u):
    Inv X (st.app d {v,s,r}) (a.put d u) w:=
  ⟨N,hd,F,I.put (s':=st.o) hdst (by funext i;simp [St.app]) I.s (fun _ h=>⟨h,rfl⟩) (Goes.refl _ _) I.fr hv⟩
theorem zxz {P:Program} {o:Oper} {a:Act} {w w':World} {K:Act->World->Prop} {Q:Exit->Act->World->Prop} {u:Value} (hr:(execOp a.eval o).run P w= .ok (.value u) w') (h:K (a.put o.dst u) w'):o.wp P a w K Q:=by
  unfold Oper.wp;rw [hr];exact h
theorem zJx {P:Program} {o:Oper} {a:Act} {w w':World} {K:Act->World->Prop} {Q:Exit->Act->World->Prop} (hr:(execOp a.eval o).run P w= .ok .skip w') (h:K (a.put o.dst undef) w'):o.wp P a w K Q:=by
  unfold Oper.wp;rw [hr];exact h
theorem zBD {m:Mem} {N:Nat->Prop} {s:Sto} {hd:Nat->Value} {v:Value} {c:C} (h:constC v=some c):RepC m N s hd c v:=by
  unfold constC at h;split at h
  all_goals first
    | (cases h;done)
    | (obtain rfl:=qh h
       first
        | exact ⟨rfl,rfl⟩
        | exact ⟨rfl,_,rfl,rfl⟩
        | exact ⟨none,rfl⟩
        | exact (rfl:_=_))
theorem zjj {m:Mem} {N:Nat->Prop} {s:Sto} {hd:Nat->Value}: ∀ {vs:List Value} {cs:List C},constCs vs=some cs->RepCs m N s hd cs vs
  | [],cs,h=>by obtain rfl:=qh h;trivial
  | v::vs,cs,h=>by
    simp only [constCs] at h;split at h
    · rename_i c cs' h1 h2;obtain rfl:=qh h;exact ⟨zBD h1,zjj h2⟩
    · cases h
theorem zHi {m:Mem} {N:Nat->Prop} {s:Sto} {hd:Nat->Value} (v:Value):RepV m N s hd (constV v) v:=by
  by_cases h: ∃cs,v= .agg cs
  · obtain ⟨cs,rfl⟩:=h;simp only [constV];split
    · rename_i l h;exact ⟨cs.toList,rfl,zjj h⟩
    · trivial
  · have e:constV v=ofC (constC v):=by cases v<;>first | rfl | exact absurd ⟨_,rfl⟩ h
    rw [e]
    cases hc:constC v with
    | none=>trivial
    | some c=>exact zBD hc
theorem InvD.eval {X:Ctx} {st:St} {a:Act} {w:World} {N:Nat->Prop} {hd:Nat->Value} {F:Nat->List Nat} (I:InvD X st a w N hd F) (x:Operand):RepV (memOf w) N st.o hd (st.eval x) (a.eval x):=by
  cases x with
  | tmp t=>exact I.t t
  | const v=>exact zHi v
  | global g=>trivial
  | func f=>exact ⟨rfl,[],rfl,rfl,rfl⟩
def Good (E:Env) (X:Ctx) (o:Oper) (st:St) (e:Eff):Prop:=
  ∀st':St,(∀x∈o.op.operands,st'.eval x=st.eval x)->(∀i,i∈e.w∨i∈e.r->st'.o i=st.o i)-> ∀a w,Inv X st' a w->dstOK X o.dst-> ∀(K:Act->World->Prop) (Q:Exit->Act->World->Prop),
    (∀a' w',Inv X (st'.app o.dst e) a' w'->K a' w')->o.wp E.P a w K Q
theorem Good.val {E:Env} {X:Ctx} {o:Oper} {st:St} {v:V} {r:List Nat} {s:Sto}
    (h: ∀st':St,(∀x∈o.op.operands,st'.eval x=st.eval x)->(∀i∈r,st'.o i=st.o i)-> ∀a w N hd F,InvD X st' a w N hd F->
      ∃u,(execOp a.eval o).run E.P w= .ok (.value u) w∧RepV (memOf w) N st'.o hd v u):Good E X o st {v,s,r}:=by
  intro st' h1 h2 a w ⟨N,hd,F,I⟩ hd' K Q hK;obtain ⟨u,hr,hv⟩:=h st' h1 (fun i hi=>h2 i (.inr hi)) a w N hd F I;exact zxz hr (hK _ _ (I.val hd' hv))
theorem zKk {h:Value} (hh:h.oneCell'=true) (sz lo hi:Nat):(subV h sz lo hi).oneCell'=true:=by
  unfold subV;split
  · rfl
  · exact hh
section tables
variable {P : Program}
theorem ztt {t:TypeId} {d:TypeDesc} (h:P.underlying t=some d): ∃i,P.info? t=some i:=by
 cases hi:P.info? t with
 | none=>simp [Program.underlying,hi] at h
 | some i=>exact ⟨i,rfl⟩
theorem zHn {t:TypeId} (h:szP P t≠0): ∃i,P.info? t=some i∧i.size=szP P t:=by
 unfold szP at h ⊢
 cases hi:P.info? t with
 | none=>simp [hi] at h
 | some i=>exact ⟨i,rfl,by simp⟩
theorem zms {t:TypeId} (h:szP P t≠0) (w:World):(sizeOf t).run P w= .ok (szP P t) w:=by
 obtain ⟨i,hi,hs⟩:=zHn h;simp [sizeOf,typeInfo,hi,hs]
theorem zv4 {t:TypeId} (h:okP P t=true) (w:World):(isAgg t).run P w= .ok (isAggP P t) w:=by
 unfold okP at h;obtain ⟨d,hd⟩:=Option.isSome_iff_exists.1 h;unfold isAgg isAggP;rw [Sem.run_bind,run_underlying hd w];simp only [Result.andThen,hd];cases d<;>rfl
theorem zqQ {t te:TypeId} (h:elemP P t=some te):P.underlying t=some (.slice te):=by
 unfold elemP at h;split at h
 ·rename_i e he;simp at h;subst h;exact he
 ·cases h
end tables
theorem zq2 {w:World} {b off:Nat} {us:List Value} (h:cellsIn (memOf w) b off us) (j:Nat) (v:Value) (hj:us[j]?=some v):w.cell? ⟨b,off+j,none⟩=some v:=by
 obtain ⟨c,T,fr,h1,h2⟩:=h;have h1':w.heap[b]?=some (.cells c T fr):=h1;simp [World.cell?,h1',h2 j v hj]
theorem Addr.add_none (b off n:Nat):(⟨b,off,none⟩:Addr).add n=⟨b,off+n,none⟩:=by
 unfold Addr.add;split
 ·rename_i h;simp [h]
 ·rfl
theorem zm7 {P:Program} {w:World} {t:TypeId} {b off:Nat} {us:List Value} (h:cellsIn (memOf w) b off us) (hok:okP P t=true) (hl:(us.take (szP P t)).length=szP P t) (h1:isAggP P t=false->szP P t=1):
  ∃u,(loadVar t ⟨b,off,none⟩).run P w= .ok u w∧(if isAggP P t=true then u= .agg ⟨us.take (szP P t)⟩ else us.take (szP P t)= [u]):=by
 cases hag:isAggP P t with
 | true=>
  refine ⟨.agg ⟨us.take (szP P t)⟩,?_,by simp⟩
  have hlc:=run_loadCells_list (P:=P) w ⟨b,off,none⟩ (us.take (szP P t)) (fun j v hj=>by
   rw [Addr.add_none];rw [List.getElem?_take] at hj;split at hj
   ·exact zq2 h j v hj
   ·cases hj)
  rw [hl] at hlc
  have hs:(sizeOf t).run P w= .ok (szP P t) w:=by
   unfold okP at hok;obtain ⟨d,hd⟩:=Option.isSome_iff_exists.1 hok;obtain ⟨i,hi⟩:=ztt hd;simp [sizeOf,typeInfo,hi,szP]
  simp [loadVar,Sem.run_bind,zv4 hok,hag,hs,hlc]
 | false=>
  have h1':=h1 hag;rw [h1'] at hl ⊢
  match us,hl with
  | u::r,_=>
   refine ⟨u,?_,by simp⟩;have:=zq2 h 0 u rfl;simp only [Nat.add_zero] at this;simp [loadVar,Sem.run_bind,zv4 hok,hag,run_load,this]
theorem zBK {R:Type} {c:C} {s:Sto} {K:List C->List Nat->Option R} {r:R} (h:cellsAt c s K=some r):
  ∃cs m,K cs m=some r∧ ∀s':Sto,(∀i∈m,s' i=s i)-> ∀ {mem:Mem} {N:Nat->Prop} {hd:Nat->Value} {F:Nat->List Nat} {size:Nat},SInv mem N s' hd F size-> ∀v,RepC mem N s' hd c v->
   ∃b off us,v= .pointer (some ⟨b,off,none⟩)∧RepCs mem N s' hd cs us∧cellsIn mem b off us:=by
 cases c with
 | iptr τ x off=>
  simp only [cellsAt] at h;split at h
  ·rename_i hi;refine ⟨_,_,h,fun s' _ mem N hd F size I v hv=>?_⟩;obtain ⟨b,o,es,h1,h2,h3,h4⟩:=hv;exact ⟨b,o+off,es.drop off,h1,(ztj hi h3).drop,h4.drop off⟩
  ·cases h
 | bp id ver off=>
  simp only [cellsAt] at h;split at h
  ·rename_i v cs hs;split at h
   ·rename_i hv;subst hv;refine ⟨_,_,h,fun s' hs' mem N hd F size I u hu=>?_⟩;have hid:=hs' id (by simp);rw [hs] at hid;have hob:=I.obj id;rw [hid] at hob;obtain ⟨g,vs,T,h1,h2,h3,h4⟩:=hob;obtain ⟨g',e1,e2⟩:=hu.2.2 (by rw [hid]) (by rw [hid];rfl);rw [h1] at e1;injection e1 with e1;injection e1 with e1;injection e1 with e1
    subst e1;exact ⟨g,off,vs.drop off,e2,h3.drop,⟨⟨vs⟩,T,(0,0),h2,fun j w hj=>by simpa using hj⟩⟩
   ·cases h
  ·rename_i v τ x hs;split at h
   ·rename_i hv;obtain ⟨rfl,hi⟩:=hv;refine ⟨_,_,h,fun s' hs' mem N hd F size I u hu=>?_⟩;have hid:=hs' id (by simp);rw [hs] at hid;have hob:=I.obj id;rw [hid] at hob;obtain ⟨_,⟨_,b,o,es,h1,h2,h3,h4⟩,g,h5⟩:=hob;obtain ⟨g',e1,e2⟩:=hu.2.2 (by rw [hid]) (by rw [hid];rfl);have h1':hd id= .pointer (some ⟨b,o,none⟩):=by simpa using h1
    rw [h1'] at e1;injection e1 with e1;injection e1 with e1;injection e1 with e1 e3
    subst e1;subst e3;exact ⟨b,off,es.drop off,e2,(ztj hi h3).drop,by have:=h4.drop off;simpa using this⟩
   ·cases h
  ·cases h
 | ep id ver i off=>
  simp only [cellsAt] at h;split at h
  ·rename_i v e xs hs;split at h
   ·rename_i hv;obtain ⟨rfl,hi⟩:=hv;obtain ⟨x,hx,h⟩:=qS.1 h;refine ⟨_,_,h,fun s' hs' mem N hd F size I u hu=>?_⟩;have hid:=hs' id (by simp);rw [hs] at hid;have hob:=I.obj id;rw [hid] at hob;obtain ⟨g',len,cap,e1,e2⟩:=hu.2.2 (by rw [hid]) (by rw [hid];rfl);rw [hid] at e2;rcases hob with ⟨a,_,h2,_⟩ | ⟨g,cap',c,T,es,Fs,h1,h2,h3,h4,h5,h6,h7,h8,h9,h10⟩
    ·subst h2;simp at hx
    ·obtain ⟨hilt,hxi⟩:=qW.1 hx;have h1':hd id= .slice (some ⟨g,0,none⟩) (List.length xs) cap':=by simpa using h1
     rw [h1'] at e1;injection e1 with e1 _ _;injection e1 with e1;injection e1 with e1
     subst e1;have h8':=h8 i hilt (by omega) (by omega);have hf:=RepT.imm hi h8';rw [hf,hxi] at h8'
     have hlen: ∀y∈es,y.length=e.sz:=by
      intro y hy;obtain ⟨j,hj,rfl⟩:=qH.1 hy;exact (h8 j (by omega) hj (by omega)).len
     refine ⟨g,i*e.sz+off,(es[i]'(by omega)).drop off,e2,(ztj hi h8').drop,?_⟩
     have hc:cellsIn mem g 0 es.flatten:=⟨c,T,(0,0),h2,fun j w hj=>by
      rw [<-h9,List.getElem?_take] at hj;split at hj
      ·simpa using hj
      ·cases hj⟩
     have hc':=hc.drop (i*e.sz);rw [zev es i hlen,qj (by omega),List.flatten_cons,qJ] at hc'
     have hc2:cellsIn mem g (i*e.sz) (es[i]'(by omega)):=by
      obtain ⟨c',T',fr',k1,k2⟩:=hc';exact ⟨c',T',fr',k1,fun j w hj=>k2 j w (by rw [List.getElem?_append_left (qW.1 hj).1];exact hj)⟩
     exact hc2.drop off
   ·cases h
  ·cases h
 | _=>cases h
section
variable {E : Env} {O : Oracle E} {X : Ctx} {o : Oper} {st : St} {R : Type} {K : Eff -> Option R} {r : R}
theorem zax {st:St} {x:Operand} {k:C->Option R} (h:(match (st.eval x).one? with | some c=>k c | none=>none)=some r): ∃c,st.eval x= .one c∧k c=some r:=by
 split at h
 ·rename_i c hc
  cases hv:st.eval x with
  | one c'=>rw [hv] at hc;simp [V.one?] at hc;subst hc;exact ⟨c',rfl,h⟩
  | _=>rw [hv] at hc;simp [V.one?] at hc
 ·cases h
end
theorem zGA {m:Mem} {N:Nat->Prop}: ∀(e:Ty) (x:e.den) (cs:List Value) (F:List Nat) (off:Nat) (σ:Ty) (ys:List σ.den),RepT m N e x cs F->getAt e x off=some ⟨σ,ys⟩->
  ∃v0 Fa G Fb,cs[off]?=some v0∧F=Fa++(G++Fb)∧RepT m N (.own σ) ys [v0] G∧
   ∀(m':Mem) (N':Nat->Prop),(∀b,N b->N' b∧m' b=m b)->(∀k∈Fa++Fb,m' k=m k)-> ∀(σ':Ty) (ys':List σ'.den) (G':List Nat) (x':e.den),RepT m' N' (.own σ') ys' [v0] G'->setAt e x off σ' ys'=some x'->RepT m' N' e x' cs (Fa++(G'++Fb)):=by
 intro e
 induction e with
 | agg fs ih=>intro x cs F off σ ys hr hg;exact ih x cs F off σ ys hr hg
 | own τ _=>
  intro x cs F off σ ys hr hg
  cases off with
  | succ _=>cases hg
  | zero=>
   have hl:=hr.len
   match cs,hl with
   | [v0],_=>
    have hg':=qh hg;injection hg' with h1 h2
    subst h1;obtain rfl:=eq_of_heq h2;refine ⟨v0,[],F,[],rfl,by simp,hr,fun m' N' _ _ σ' ys' G' x' hr' hs=>?_⟩;simp only [setAt] at hs;split at hs
    ·rename_i hσ;obtain rfl:=qh hs;simpa using zam hσ hr'
    ·cases hs
 | cons a r iha ihr=>
  intro x cs F off σ ys hr hg;obtain ⟨c1,c2,F1,F2,rfl,rfl,h1,h2⟩:=hr;have hl:=h1.len;by_cases ho:off<a.sz
  ·simp only [getAt,qb ho] at hg;obtain ⟨v0,Fa,G,Fb,k1,k2,k3,k4⟩:=iha x.1 c1 F1 off σ ys h1 hg;refine ⟨v0,Fa,G,Fb++F2,by rw [List.getElem?_append_left (by omega)];exact k1,by rw [k2];simp,k3,fun m' N' hN hF σ' ys' G' x' hr' hs=>?_⟩;simp only [setAt,qb ho] at hs;split at hs
   ·rename_i z hz;obtain rfl:=qh hs
    exact ⟨c1,c2,Fa++(G'++Fb),F2,rfl,by simp,k4 m' N' hN (fun k hk=>hF k (by
     rcases qr.1 hk with h | h
     ·exact qw _ h
     ·exact qB _ (qw _ h))) σ' ys' G' z hr' hz,RepT.mono hN (fun k hk=>hF k (qB _ (qB _ hk))) h2⟩
   ·cases hs
  ·simp only [getAt,qc ho] at hg;obtain ⟨v0,Fa,G,Fb,k1,k2,k3,k4⟩:=ihr x.2 c2 F2 (off-a.sz) σ ys h2 hg;refine ⟨v0,F1++Fa,G,Fb,by rw [List.getElem?_append_right (by omega),hl];exact k1,by rw [k2];simp,k3,fun m' N' hN hF σ' ys' G' x' hr' hs=>?_⟩;simp only [setAt,qc ho] at hs;split at hs
   ·rename_i z hz;obtain rfl:=qh hs
    exact ⟨c1,c2,F1,Fa++(G'++Fb),rfl,by simp,RepT.mono hN (fun k hk=>hF k (qw _ (qw _ hk))) h1,k4 m' N' hN (fun k hk=>hF k (by
     rcases qr.1 hk with h | h
     ·exact qw _ (qB _ h)
     ·exact qB _ h)) σ' ys' G' z hr' hz⟩
   ·cases hs
 | _=>intro x cs F off σ ys hr hg;cases hg
theorem zsP {α:Type} (L:List (List α)) (i:Nat) (y:List α) (h:i<L.length):(L.set i y).flatten=(L.take i).flatten++(y++(L.drop (i+1)).flatten):=by
 rw [List.set_eq_take_append_cons_drop,qb h];simp
theorem zoz {α:Type} (L:List (List α)) (i:Nat) (h:i<L.length):L.flatten=(L.take i).flatten++(L[i]++(L.drop (i+1)).flatten):=by
 conv=>lhs;rw [<-wa i L,qj h]
 rw [List.flatten_append,List.flatten_cons]
theorem zHW {m:Mem} {N:Nat->Prop} {e:Ty} {xs:List e.den} {h:Value} {F:List Nat} (hr:RepT m N (.own e) xs [h] F) {i off:Nat} {x:e.den} (hx:xs[i]?=some x) {σ:Ty} {ys:List σ.den} (hg:getAt e x off=some ⟨σ,ys⟩):
  ∃g cap c T v0 Fa G Fb,h= .slice (some ⟨g,0,none⟩) (List.length xs) cap∧m g=some (.cells c T (0,0))∧c.toList[i*e.sz+off]?=some v0∧F=Fa++(G++Fb)∧RepT m N (.own σ) ys [v0] G∧Wand m N e xs i off x h v0 Fa Fb:=by
 obtain ⟨hi,rfl⟩:=qW.1 hx;rcases hr with ⟨a,_,h2,_⟩ | ⟨g,cap,c,T,es,Fs,h1,h2,h3,h4,h5,h6,h7,h8,h9,rfl⟩
 ·subst h2;simp at hi
 ·have h1':h= .slice (some ⟨g,0,none⟩) (List.length xs) cap:=by simpa using h1
  have hie:i<es.length:=by omega
  have hiF:i<Fs.length:=by omega
  obtain ⟨v0,Fa,G,Fb,k1,k2,k3,k4⟩:=zGA e xs[i] es[i] Fs[i] off σ ys (h8 i hi hie hiF) hg
  have hlen: ∀y∈es,y.length=e.sz:=by
   intro y hy;obtain ⟨j,hj,rfl⟩:=qH.1 hy;exact (h8 j (by omega) hj (by omega)).len
  have hoff:off<e.sz:=by
   have:=(qW.1 k1).1
   rwa [hlen _ (qi hie)] at this
  refine ⟨g,cap,c,T,v0,g::((Fs.take i).flatten++Fa),G,Fb++(Fs.drop (i+1)).flatten,h1',h2,?_,?_,k3,fun m' N' hN hF σ' ys' G' x' hr' hs=>?_⟩
  ·have hfl:=zP es hlen
   have hlt:i*e.sz+off<es.flatten.length:=by
    rw [hfl];have:(i+1)*e.sz<=es.length*e.sz:=Nat.mul_le_mul_right _ (by omega);rw [Nat.add_mul] at this;omega
   have e1:c.toList[i*e.sz+off]?=es.flatten[i*e.sz+off]?:=by
    rw [<-h9,List.getElem?_take,qb hlt]
   rw [e1,zoz es i hie]
   have hA:(es.take i).flatten.length=i*e.sz:=by
    rw [zP _ (fun y hy=>hlen y (List.mem_of_mem_take hy)),List.length_take];congr 1;omega
   rw [List.getElem?_append_right (by omega),hA,Nat.add_sub_cancel_left,List.getElem?_append_left (by rw [hlen _ (qi hie)];exact hoff)];exact k1
  ·rw [zoz Fs i hiF,k2];simp
  ·refine .inr ⟨g,cap,c,T,es,Fs.set i (Fa++(G'++Fb)),by simpa using h1,by rw [hF g (by simp)];exact h2,h3,by simpa using h4,h5,by simpa using h6,by simpa using h7,fun j hj hj' hj''=>?_,h9,?_⟩
   ·have hj0:j<List.length xs:=by simpa using hj
    have hj2:j<Fs.length:=by simpa using hj''
    by_cases hji:j=i
    ·subst hji;simp only [List.getElem_set_self]
     exact k4 m' N' hN (fun k hk=>hF k (by
      rcases qr.1 hk with h | h
      ·exact qw _ (qn _ (qB _ h))
      ·exact qB _ (qw _ h))) σ' ys' G' x' hr' hs
    ·simp only [List.getElem_set_ne (Ne.symm hji)];refine RepT.mono hN (fun k hk=>hF k ?_) (h8 j hj0 hj' hj2);by_cases hlt:j<i
     ·refine qw _ (qn _ (qw _ (List.mem_flatten.2 ⟨Fs[j],?_,hk⟩)));exact qH.2 ⟨j,by rw [List.length_take];omega,by simp⟩
     ·refine qB _ (qB _ (List.mem_flatten.2 ⟨Fs[j],?_,hk⟩));exact qH.2 ⟨j-(i+1),by rw [List.length_drop];omega,by simp;congr 1;omega⟩
   ·rw [zsP Fs i _ hiF];simp
theorem zKz {m:Mem} {N:Nat->Prop} {a:Ty} {xs:List (Ty.mv a).den} {h:Value} {F:List Nat} (hr:RepT m N (.own (.mv a)) xs [h] F) {i:Nat} {x:(Ty.mv a).den} (hx:xs[i]?=some x):
  ∃g cap c T v0 Fa G Fb,h= .slice (some ⟨g,0,none⟩) (List.length xs) cap∧m g=some (.cells c T (0,0))∧c.toList[i]?=some v0∧F=Fa++(G++Fb)∧RepT m N (.mv a) x [v0] G∧RepT m N (.own (.mv a)) (xs.set i none) [h] (Fa++Fb):=by
 obtain ⟨hi,rfl⟩:=qW.1 hx;rcases hr with ⟨b,_,h2,_⟩ | ⟨g,cap,c,T,es,Fs,h1,h2,h3,h4,h5,h6,h7,h8,h9,rfl⟩
 ·subst h2;simp at hi
 ·have h1':h= .slice (some ⟨g,0,none⟩) (List.length xs) cap:=by simpa using h1
  have hie:i<es.length:=by omega
  have hiF:i<Fs.length:=by omega
  have hlen: ∀y∈es,y.length=1:=by
   intro y hy;obtain ⟨j,hj,rfl⟩:=qH.1 hy;exact (h8 j (by omega) hj (by omega)).len
  obtain ⟨v0,hv0⟩: ∃v0,es[i]= [v0]:=by
   have:=hlen _ (qi hie)
   match es[i],this with
   | [v],_=>exact ⟨v,rfl⟩
  have hrep:=h8 i hi hie hiF;have hone:=RepT.one' hrep v0 (by rw [hv0];simp);rw [hv0] at hrep;refine ⟨g,cap,c,T,v0,g::(Fs.take i).flatten,Fs[i],(Fs.drop (i+1)).flatten,h1',h2,?_,?_,hrep,?_⟩
  ·have hfl:=zP es hlen;have hlt:i<es.flatten.length:=by rw [hfl];omega
   have e1:c.toList[i]?=es.flatten[i]?:=by
    rw [<-h9,List.getElem?_take,qb hlt]
   rw [e1,zoz es i hie]
   have hA:(es.take i).flatten.length=i:=by
    rw [zP _ (fun y hy=>hlen y (List.mem_of_mem_take hy)),List.length_take];omega
   rw [List.getElem?_append_right (by omega),hA,Nat.sub_self,hv0];rfl
  ·rw [zoz Fs i hiF];simp
  ·refine .inr ⟨g,cap,c,T,es,Fs.set i [],by simpa using h1,h2,h3,by simpa using h4,h5,by simpa using h6,by simpa using h7,fun j hj hj' hj''=>?_,h9,?_⟩
   ·have hj0:j<List.length xs:=by simpa using hj
    have hj2:j<Fs.length:=by simpa using hj''
    by_cases hji:j=i
    ·subst hji;simp only [List.getElem_set_self];exact ⟨rfl,v0,hv0,hone⟩
    ·simp only [List.getElem_set_ne (Ne.symm hji)];exact h8 j hj0 hj' hj2
   ·rw [zsP Fs i _ hiF];simp
section
variable {E : Env} {O : Oracle E} {X : Ctx} {o : Oper} {st : St} {R : Type} {K : Eff -> Option R} {r : R}
theorem zGs {t:TypeId} {x:Operand} (ho:o.op= .load t x) (hmv:mvEp (st.eval x) st.o=none) (hnb: ¬(E.borrow (o.dst.getD 0) t=true∧deepEp (st.eval x) st.o=true)) (h:exOp E O o st K=some r): ∃e,K e=some r∧Good E X o st e:=by
 simp only [exOp,ho,hmv] at h;rw [qc hnb] at h;obtain ⟨c,hc,h⟩:=zax h;obtain ⟨cs,m,h,hat⟩:=zBK h;split at h
 ·rename_i hif;obtain ⟨hok,hl,hs1⟩:=hif;refine ⟨_,h,Good.val fun st' he hm a w N hd F I=>?_⟩;have hx:=I.eval x;rw [he x (by rw [ho];simp [Op.operands]),hc] at hx;obtain ⟨b,off,us,e1,e2,e3⟩:=hat st'.o hm I.s _ hx
  have hlu:(us.take (szP E.P t)).length=szP E.P t:=by
   have:=e2.len;simp only [List.length_take] at hl ⊢; omega
  obtain ⟨u,hr,hu⟩:=zm7 e3 hok hlu hs1;exact ⟨u,by simp [execOp,ho,Instr.loadAt,e1,Instr.sureAddr,hr],(zsQ e2.take hu).1⟩
 ·cases h
theorem zDa {x:Operand} (ho:o.op= .move x∨o.op= .assign x) (h:exOp E O o st K=some r): ∃e,K e=some r∧Good E X o st e:=by
 have h':K {v:=st.eval x,s:=st.o,r:= []}=some r:=by
  rcases ho with ho | ho<;>(simp only [exOp,ho] at h;exact h)
 refine ⟨_,h',Good.val fun st' he hm a w N hd F I=>⟨a.eval x,by rcases ho with ho | ho<;>simp [execOp,ho],?_⟩⟩;rw [<-he x (by rcases ho with ho | ho<;>(rw [ho];simp [Op.operands]))];exact I.eval x
theorem zHX {c x y:Operand} (ho:o.op= .pick c x y) (h:exOp E O o st K=some r): ∃e,K e=some r∧Good E X o st e:=by
 simp only [exOp,ho] at h;obtain ⟨d,hd,h⟩:=zax h;split at h
 ·rename_i b;refine ⟨_,h,Good.val fun st' he hm a w N hd' F I=>?_⟩;have hc:=I.eval c;rw [he c (by rw [ho];simp [Op.operands]),hd] at hc;have hcv:a.eval c= .bool b:=by simpa using hc.1
  have hx:=I.eval x;have hy:=I.eval y;rw [he x (by rw [ho];simp [Op.operands])] at hx;rw [he y (by rw [ho];simp [Op.operands])] at hy;refine ⟨if b then a.eval x else a.eval y,by simp [execOp,ho,hcv,asBool],?_⟩;cases b
  ·exact hy
  ·exact hx
 ·cases h
theorem zdi {x:Operand} {c:C} (hc:st.eval x= .one c) (hx:x∈o.op.operands) {v:V} {s:Sto} {rd:List Nat}
  (h: ∀ {a:Act} {w:World} {N:Nat->Prop} {s':Sto} {hd:Nat->Value} {F:Nat->List Nat},(∀i∈rd,s' i=st.o i)->SInv (memOf w) N s' hd F w.heap.size->RepC (memOf w) N s' hd c (a.eval x)->
   ∃u,(execOp a.eval o).run E.P w= .ok (.value u) w∧RepV (memOf w) N s' hd v u):Good E X o st {v,s,r:=rd}:=by
 refine Good.val fun st' he hm a w N hd' F I=>?_
 have h1:=I.eval x;rw [he x hx,hc] at h1;exact h hm I.s h1
theorem zdb {x y:Operand} {c d:C} (hc:st.eval x= .one c) (hx:x∈o.op.operands) (hd:st.eval y= .one d) (hy:y∈o.op.operands) {v:V} {s:Sto} {rd:List Nat}
  (h: ∀ {a:Act} {w:World} {N:Nat->Prop} {s':Sto} {hd:Nat->Value} {F:Nat->List Nat},(∀i∈rd,s' i=st.o i)->SInv (memOf w) N s' hd F w.heap.size->RepC (memOf w) N s' hd c (a.eval x)->RepC (memOf w) N s' hd d (a.eval y)->
   ∃u,(execOp a.eval o).run E.P w= .ok (.value u) w∧RepV (memOf w) N s' hd v u):Good E X o st {v,s,r:=rd}:=by
 refine Good.val fun st' he hm a w N hd' F I=>?_
 have h1:=I.eval x;rw [he x hx,hc] at h1;have h2:=I.eval y;rw [he y hy,hd] at h2;exact h hm I.s h1 h2
theorem zHK {mem:Mem} {N:Nat->Prop} {op v:Int} {l r:List Int} {kids:List Tree} {u:Value} (h:RepTree mem N (.mk op v l r kids) u):
  ∃b off es,u= .pointer (some ⟨b,off,none⟩)∧N b∧RepT mem N (.agg nodeTy) (op,v,l,r,kids,()) es []∧cellsIn mem b off es:=by
 cases h with
 | mk _ _ _ _ _ b off lv rv a cap kvs hb hc hl hr hcap hlen hk hm=>
  exact ⟨b,off,_,rfl,hb,⟨[_],_,[],[],rfl,rfl,⟨rfl,rfl⟩,[_],_,[],[],rfl,rfl,⟨rfl,rfl⟩,[_],_,[],[],rfl,rfl,hl.rep,[_],_,[],[],rfl,rfl,hr.rep,[_],[],[],[],rfl,rfl,RepT.of_trees hcap hlen hk hm,rfl,rfl⟩,hc⟩
theorem zDr {x:Operand} (ho:o.op= .nilCheck x) (h:exOp E O o st K=some r): ∃e,K e=some r∧Good E X o st e:=by
 have hx:x∈o.op.operands:=by rw [ho];simp [Op.operands]
 have run: ∀ {a:Act} {w:World} {ad:Addr},a.eval x= .pointer (some ad)->(execOp a.eval o).run E.P w= .ok (.value (a.eval x)) w:=by
  intro a w ad h;simp [execOp,ho,h]
 simp only [exOp,ho] at h;split at h
 ·rename_i id v off hc;split at h
  ·rename_i hif;refine ⟨_,h,zdi hc hx fun {a w N s' hd F} hm I hv=>?_⟩;have hid:=hm id (by simp);obtain ⟨g,e1,e2⟩:=hv.2.2 (by rw [hid];exact hif.1) (by rw [hid];exact hif.2);exact ⟨_,run e2,hv⟩
  ·cases h
 ·rename_i id v i off hc;split at h
  ·rename_i hif;refine ⟨_,h,zdi hc hx fun {a w N s' hd F} hm I hv=>?_⟩;have hid:=hm id (by simp);obtain ⟨g,len,cap,e1,e2⟩:=hv.2.2 (by rw [hid];exact hif.1) (by rw [hid];exact hif.2);exact ⟨_,run e2,hv⟩
  ·cases h
 ·rename_i τ y off hc;refine ⟨_,h,zdi hc hx fun {a w N s' hd F} hm I hv=>?_⟩;have hv':=hv;obtain ⟨b,o',es,h1,_⟩:=hv';exact ⟨_,run h1,hv⟩
 ·rename_i e0 y0 hc;obtain ⟨y,hy,h⟩:=qS.1 h;refine ⟨_,h,zdi hc hx fun {a w N s' hd F} hm I hv=>?_⟩;have hv':RepT (memOf w) N (.optr e0) y0 [a.eval x] []:=hv;have hy':y0=some y:=hy;subst hy';obtain ⟨_,b,off,es,h1,h2,h3,h4⟩:=hv';have e:a.eval x= .pointer (some ⟨b,off,none⟩):=by simpa using h1
  exact ⟨_,run e,b,off,es,by rw [e];rfl,h2,h3,h4⟩
 ·rename_i y hc;split at h
  ·cases h
  ·rename_i op v l r' kids;refine ⟨_,h,zdi hc hx fun {a w N s' hd F} hm I hv=>?_⟩;obtain ⟨_,u,hu,ht⟩:=hv;obtain ⟨b,off,es,h1,h2,h3,h4⟩:=zHK ht;have e:a.eval x= .pointer (some ⟨b,off,none⟩):=by simp at hu;rw [hu,h1]
   exact ⟨_,run e,b,off,es,by rw [e];rfl,h2,h3,h4⟩
 ·cases h
theorem zCj {t:TypeId} {x:Operand} {i:Nat} (ho:o.op= .fieldAddr t x i) (h:exOp E O o st K=some r): ∃e,K e=some r∧Good E X o st e:=by
 have hx:x∈o.op.operands:=by rw [ho];simp [Op.operands]
 simp only [exOp,ho] at h;split at h
 ·cases h
 ·rename_i f hf;split at h
  ·cases h
  ·rename_i hsz
   have hfs: ∃fs,E.P.underlying t=some (.struct fs)∧fs[i]?=some f:=by
    unfold fieldsP at hf;split at hf
    ·rename_i fs hu;exact ⟨fs,hu,by simpa using hf⟩
    ·simp at hf
   obtain ⟨fs,hu,hfi⟩:=hfs
   have run: ∀ {a:Act} {w:World} {b off:Nat},a.eval x= .pointer (some ⟨b,off,none⟩)->(execOp a.eval o).run E.P w= .ok (.value (.pointer (some ⟨b,off+f.offset,none⟩))) w:=by
    intro a w b off h;simp [execOp,ho,h,Instr.fieldAt,run_underlying hu,hfi,Instr.sureAddr,fieldPlace,zms hsz,hsz,Addr.add_none]
   obtain ⟨c,hc,h⟩:=zax h;split at h
   ·rename_i id v off;split at h
    ·rename_i hif;refine ⟨_,h,zdi hc hx fun {a w N s' hd F} hm I hv=>?_⟩;have hid:=hm id (by simp);obtain ⟨g,e1,e2⟩:=hv.2.2 (by rw [hid];exact hif.1) (by rw [hid];exact hif.2);exact ⟨_,run e2,hv.1,rfl,fun _ _=>⟨g,e1,rfl⟩⟩
    ·cases h
   ·rename_i id v i' off;split at h
    ·rename_i hif;refine ⟨_,h,zdi hc hx fun {a w N s' hd F} hm I hv=>?_⟩;have hid:=hm id (by simp);obtain ⟨g,len,cap,e1,e2⟩:=hv.2.2 (by rw [hid];exact hif.1) (by rw [hid];exact hif.2);exact ⟨_,run e2,hv.1,rfl,fun _ _=>⟨g,len,cap,e1,by rw [Nat.add_assoc]⟩⟩
    ·cases h
   ·rename_i τ y off;refine ⟨_,h,zdi hc hx fun {a w N s' hd F} hm I hv=>?_⟩;obtain ⟨b,o',es,h1,h2,h3,h4⟩:=hv;exact ⟨_,run h1,b,o',es,by rw [Nat.add_assoc],h2,h3,h4⟩
   ·cases h
theorem zG8 {t:TypeId} {x:Operand} {i:Nat} (ho:o.op= .field t x i) (h:exOp E O o st K=some r): ∃e,K e=some r∧Good E X o st e:=by
 have hx:x∈o.op.operands:=by rw [ho];simp [Op.operands]
 simp only [exOp,ho] at h;split at h
 ·rename_i f cs hf hc;split at h
  ·rename_i hif;obtain ⟨hok,hl,h1⟩:=hif
   have hfs: ∃fs,E.P.underlying t=some (.struct fs)∧fs[i]?=some f:=by
    unfold fieldsP at hf;split at hf
    ·rename_i fs hu;exact ⟨fs,hu,by simpa using hf⟩
    ·simp at hf
   obtain ⟨fs,hu,hfi⟩:=hfs;refine ⟨_,h,Good.val fun st' he hm a w N hd' F I=>?_⟩;have hv:=I.eval x;rw [he x hx,hc] at hv;obtain ⟨us,e1,e2⟩:=hv;have e3:=(e2.drop (n:=f.offset)).take (n:=szP E.P f.type);have hlu:((us.drop f.offset).take (szP E.P f.type)).length=szP E.P f.type:=by rw [e3.len];exact hl
   cases hag:isAggP E.P f.type with
   | true=>
    refine ⟨.agg ⟨(us.drop f.offset).take (szP E.P f.type)⟩,?_,_,rfl,e3⟩
    have hs:(sizeOf f.type).run E.P w= .ok (szP E.P f.type) w:=by
     unfold okP at hok;obtain ⟨d,hd⟩:=Option.isSome_iff_exists.1 hok;obtain ⟨i,hi⟩:=ztt hd;simp [sizeOf,typeInfo,hi,szP]
    have hex:(us.toArray.extract f.offset (f.offset+szP E.P f.type))=((us.drop f.offset).take (szP E.P f.type)).toArray:=by
     simp [List.extract_toArray]
    simp [execOp,ho,Instr.field,run_underlying hu,hfi,e1,asAgg,part,zv4 hok,hag,hs]
   | false=>
    have hs1:=h1 hag;rw [hs1] at hlu e3
    have hg: ∃u,us[f.offset]?=some u∧(us.drop f.offset).take 1= [u]:=by
     cases hd:us.drop f.offset with
     | nil=>rw [hd] at hlu;simp at hlu
     | cons u rr=>
      refine ⟨u,?_,rfl⟩;have:=List.getElem?_drop (xs:=us) (i:=f.offset) (j:=0);rw [hd] at this;simpa using this.symm
    obtain ⟨u,hg,ht⟩:=hg;rw [ht] at e3;refine ⟨u,?_,by rw [hs1];exact (zsQ (ag:=false) e3 (by simp)).1⟩;simp [execOp,ho,Instr.field,run_underlying hu,hfi,e1,asAgg,part,zv4 hok,hag,hg]
  ·cases h
 ·cases h
theorem zHG {op:UnOp} {t:TypeId} {x:Operand} (ho:o.op= .unOp op t x) (h:exOp E O o st K=some r): ∃e,K e=some r∧Good E X o st e:=by
 have hx:x∈o.op.operands:=by rw [ho];simp [Op.operands]
 simp only [exOp,ho] at h;obtain ⟨c,hc,h⟩:=zax h;unfold unC at h;split at h
 ·refine ⟨_,h,zdi hc hx fun {a w N s' hd F} hm I hv=>⟨_,?_,rfl,rfl⟩⟩;have e:=hv.1;simp at e;simp [execOp,ho,e,Op.unary]
 ·rename_i k y;refine ⟨_,h,zdi hc hx fun {a w N s' hd F} hm I hv=>⟨_,?_,rfl,rfl⟩⟩;have e:=hv.1;simp at e;simp [execOp,ho,e,Op.unary,Op.intArith]
 ·refine ⟨_,h,zdi hc hx fun {a w N s' hd F} hm I hv=>⟨.int _ (bitsI .xor _ _ _),?_,rfl,rfl⟩⟩;have e:=hv.1;simp at e;simp [execOp,ho,e,Op.unary,Op.intBits,bitsI]
 ·cases h
theorem zE2 {x:Operand} {i:Nat} (ho:o.op= .extract x i) (h:exOp E O o st K=some r): ∃e,K e=some r∧Good E X o st e:=by
 have hx:x∈o.op.operands:=by rw [ho];simp [Op.operands]
 simp only [exOp,ho] at h;split at h
 ·rename_i vs hc;split at h
  ·rename_i ag cs hg;refine ⟨_,h,Good.val fun st' he hm a w N hd' F I=>?_⟩;have hv:=I.eval x;rw [he x hx,hc] at hv;obtain ⟨us,e1,e2⟩:=hv
   have key: ∀(vs:List (Bool×List C)) (us:List Value) (i:Nat),RepPs (memOf w) N st'.o hd' vs us->vs[i]?=some (ag,cs)-> ∃u,us[i]?=some u∧RepP (memOf w) N st'.o hd' (ag,cs) u:=by
    intro vs
    induction vs with
    | nil=>intro us i _ h;simp at h
    | cons p vs ih=>
     intro us i hr h
     cases us with
     | nil=>exact hr.elim
     | cons u us=>
      cases i with
      | zero=>simp at h;subst h;exact ⟨u,rfl,hr.1⟩
      | succ i=>simp at h;simpa using ih us i hr.2 h
   obtain ⟨u,hu,hp⟩:=key vs us i e2 hg;refine ⟨u,by simp [execOp,ho,e1,Instr.extract,hu],?_⟩
   cases ag with
   | true=>exact hp
   | false=>
    match cs,hp with
    | [c],hp=>exact hp
  ·cases h
 ·cases h
end
theorem zcQ {m:Mem} {N:Nat->Prop} {s:Sto} {hd:Nat->Value} {k:IntKind} {x:Int} {v:Value} (h:RepC m N s hd (.imm (.int k) x) v):v= .int k x:=by simpa using h.1
theorem zsF {m:Mem} {N:Nat->Prop} {s:Sto} {hd:Nat->Value} {x:Bool} {v:Value} (h:RepC m N s hd (.imm .bool x) v):v= .bool x:=by simpa using h.1
theorem zsn {m:Mem} {N:Nat->Prop} {s:Sto} {hd:Nat->Value} {x:List UInt8} {v:Value} (h:RepC m N s hd (.imm .str x) v):v= .string ⟨⟨x⟩⟩:=by simpa using h.1
theorem zFS (b:ByteArray) (i:Nat) (acc:List UInt8):ByteArray.toList.loop b i acc=acc.reverse++b.data.toList.drop i:=by
 fun_induction ByteArray.toList.loop b i acc with
 | case1 i acc h ih=>
  have h':i<b.data.size:=h;have h2:b.data.toList.drop i=b.data.toList[i]'(by simpa using h')::b.data.toList.drop (i+1):=qj (by simpa using h');rw [ih,List.reverse_cons,qE,h2];congr 1;show b.data[i]! ::_=_;rw [getElem!_pos b.data i h']
  rfl
 | case2 i acc h=>
  have h':b.data.size<=i:=Nat.le_of_not_lt h;rw [List.drop_eq_nil_of_le (by simpa using h'),qP]
theorem zqI (x:List UInt8):(ByteArray.mk ⟨x⟩).toList=x:=by
 show ByteArray.toList.loop _ 0 []=x;rw [zFS];rfl
theorem zHU (x y:List UInt8):(ByteArray.mk ⟨x⟩)++(ByteArray.mk ⟨y⟩)=ByteArray.mk ⟨x++y⟩:=by
 apply ByteArray.ext;rw [ByteArray.data_append];simp
theorem zw7 (x:List UInt8):(ByteArray.mk ⟨x⟩).size=x.length:=by simp [ByteArray.size]
theorem zBl (x:List UInt8) (l h:Nat):(ByteArray.mk ⟨x⟩).extract l h=ByteArray.mk ⟨(x.take h).drop l⟩:=by
 apply ByteArray.ext;rw [ByteArray.data_extract];simp [List.extract_toArray,List.drop_take]
theorem zFU {P:Program} {t:TypeId} {k:IntKind} (h:isIntT P t k=true):P.underlying t=some (.int k):=by
 unfold isIntT at h;split at h
 ·rename_i k' hk;rw [hk,of_decide_eq_true h]
 ·cases h
theorem zyw {P:Program} {t:TypeId} {k:IntKind} (h:P.underlying t=some (.int k)) {xs:Array Value} {i:Nat} {v:Value} (hx:xs[i]?=some v) (w:World):(part t xs i).run P w= .ok v w:=by
 simp [part,isAgg,run_underlying h,hx]
theorem zF3 {P:Program} {m:Mem} {N:Nat->Prop} {s:Sto} {hd:Nat->Value} (d:Nat) (us vs:List Value) (w:World): ∀(fs:List Field) (i:Nat) (cs ds:List C) (r:Bool),eqI P fs cs ds i=some r->RepCs m N s hd cs (us.drop i)->RepCs m N s hd ds (vs.drop i)->
  (Op.eqFields (d+1) ⟨us⟩ ⟨vs⟩ fs).run P w= .ok r w:=by
 intro fs
 induction fs with
 | nil=>
  intro i cs ds r h _ _;cases cs<;>cases ds<;>simp [eqI] at h;subst h
  simp [Op.eqFields]
 | cons f fs ih=>
  intro i cs ds r h h1 h2
  match cs,ds,h,h1,h2 with
  | .imm (.int k) a::cs,.imm (.int k') b::ds,h,h1,h2=>
   unfold eqI at h;split at h
   ·rename_i hc;simp only [qq,qt,bne_iff_ne,ne_eq] at hc;obtain ⟨c1,c2,c3,rfl⟩:=hc;have ht:=zFU c3;obtain ⟨r',hr,rfl⟩:=Option.map_eq_some_iff.1 h
    cases hu:us.drop i with
    | nil=>rw [hu] at h1;cases h1
    | cons u us'=>
    cases hv:vs.drop i with
    | nil=>rw [hv] at h2;cases h2
    | cons v vs'=>
    rw [hu] at h1;rw [hv] at h2;have e1:=zcQ h1.1;have e2:=zcQ h2.1;subst e1;subst e2
    have g1:us[i]?=some (.int k a):=by
     have:=congrArg (fun l=>l[0]?) hu;simpa using this
    have g2:vs[i]?=some (.int k b):=by
     have:=congrArg (fun l=>l[0]?) hv;simpa using this
    have d1:us.drop (i+1)=us':=by
     have:=congrArg (List.drop 1) hu;simpa [Nat.add_comm] using this
    have d2:vs.drop (i+1)=vs':=by
     have:=congrArg (List.drop 1) hv;simpa [Nat.add_comm] using this
    have hi:=ih (i+1) cs ds r' hr (by rw [d1];exact h1.2) (by rw [d2];exact h2.2);simp only [Op.eqFields,ne_eq,c1,not_false_eq_true,qf,Sem.run_bind];rw [c2,zyw ht (xs:=⟨us⟩) (by simpa using g1) w];simp only [Result.andThen_ok];rw [zyw ht (xs:=⟨vs⟩) (by simpa using g2) w];simp only [Result.andThen_ok];rw [run_equalIn_int w d _ k k a b ht];simp only [Result.andThen_ok,Sem.run_ite]
    cases hab:((a:Int)==(b:Int)) with
    | false=>simp
    | true=>simp [hi]
   ·cases h
  | [],_,h,_,_=>simp [eqI] at h
  | _::_,[],h,_,_=>simp [eqI] at h
theorem zJs {P:Program} {t:TypeId} {fs:List Field} (h:stT P t=some fs):P.underlying t=some (.struct (P.fieldsOf t))∧(P.fieldsOf t).toList=fs∧P.stoodInHeld t=false∧P.eqGuardType P.depth t=false:=by
 unfold stT at h;split at h
 ·rename_i gs hg;split at h
  ·rename_i hc;simp only [qq,Bool.not_eq_true'] at hc;have:P.fieldsOf t=gs:=by unfold Program.fieldsOf;rw [hg]
   rw [this];exact ⟨hg,qh h,hc.1,hc.2⟩
  ·cases h
 ·cases h
section
variable {E : Env} {O : Oracle E} {X : Ctx} {o : Oper} {st : St} {R : Type} {K : Eff -> Option R} {r : R}
theorem zCU {x y:Operand} {cs ds:List C} (hc:st.eval x= .agg cs) (hx:x∈o.op.operands) (hd:st.eval y= .agg ds) (hy:y∈o.op.operands) {v:V} {s:Sto} {rd:List Nat}
  (h: ∀ {a:Act} {w:World} {N:Nat->Prop} {s':Sto} {hd:Nat->Value} {us vs:List Value},a.eval x= .agg ⟨us⟩->a.eval y= .agg ⟨vs⟩->RepCs (memOf w) N s' hd cs us->RepCs (memOf w) N s' hd ds vs->
   ∃u,(execOp a.eval o).run E.P w= .ok (.value u) w∧RepV (memOf w) N s' hd v u):Good E X o st {v,s,r:=rd}:=by
 refine Good.val fun st' he hm a w N hd' F I=>?_
 have h1:=I.eval x;rw [he x hx,hc] at h1;have h2:=I.eval y;rw [he y hy,hd] at h2;obtain ⟨us,e1,r1⟩:=h1;obtain ⟨vs,e2,r2⟩:=h2;exact h e1 e2 r1 r2
theorem zGN {op:BinOp} {t yt:TypeId} {x y:Operand} (ho:o.op= .binOp op t x y yt) (h:exOp E O o st K=some r): ∃e,K e=some r∧Good E X o st e:=by
 have hx:x∈o.op.operands:=by rw [ho];simp [Op.operands]
 have hy:y∈o.op.operands:=by rw [ho];simp [Op.operands]
 simp only [exOp,ho,binV] at h;split at h
 ·rename_i cs ds hc hd;unfold binA at h;obtain ⟨fs,hfs,h⟩:=qS.1 h;obtain ⟨b,hb,h⟩:=qS.1 h;obtain ⟨t1,t2,t3,t4⟩:=zJs hfs;split at h
  ·refine ⟨_,h,zCU hc hx hd hy fun {a w N s' hd us vs} e1 e2 r1 r2=>⟨.bool b,?_,rfl,rfl⟩⟩;have:=zF3 9998 us vs w fs 0 cs ds b hb (by simpa using r1) (by simpa using r2);rw [<-t2,<-run_equalIn_agg w 9999 t ⟨us⟩ ⟨vs⟩ t1 t3] at this;simp [execOp,ho,e1,e2,run_eqGuard_agg w _ t _ _ _ _ t4,run_eql_struct,this]
  ·refine ⟨_,h,zCU hc hx hd hy fun {a w N s' hd us vs} e1 e2 r1 r2=>⟨.bool (!b),?_,rfl,rfl⟩⟩;have:=zF3 9998 us vs w fs 0 cs ds b hb (by simpa using r1) (by simpa using r2);rw [<-t2,<-run_equalIn_agg w 9999 t ⟨us⟩ ⟨vs⟩ t1 t3] at this;simp [execOp,ho,e1,e2,run_eqGuard_agg w _ t _ _ _ _ t4,run_neq_struct,this]
  ·cases h
 replace h:=zax h
 obtain ⟨c,hc,h⟩:=h
 replace h:=zax h
 obtain ⟨d,hd,h⟩:=h;unfold binC at h;split at h
 ·rename_i k u k' v
  have fin: ∀z:C,(∀a:Act,a.eval x= .int k u->a.eval y= .int k' v-> ∀w,∃q,(execOp a.eval o).run E.P w= .ok (.value q) w∧ ∀ {m:Mem} {N:Nat->Prop} {s:Sto} {hd:Nat->Value},RepC m N s hd z q)->Good E X o st {v:= .one z,s:=st.o,r:= []}:=by
   intro z hz;refine zdb hc hx hd hy fun {a w N s' hd F} hm I h1 h2=>?_
   obtain ⟨q,h3,h4⟩:=hz a (zcQ h1) (zcQ h2) w;exact ⟨q,h3,h4⟩
  split at h
  ·split at h
   ·cases h
   ·rename_i hneg;exact ⟨_,h,fin _ fun a e1 e2 w=>⟨_,by simp [execOp,ho,e1,e2,eqGuard_shl,binOp_shl,Op.shift,hneg]<;>rfl,rfl,rfl⟩⟩
  ·split at h
   ·cases h
   ·rename_i hneg;exact ⟨_,h,fin _ fun a e1 e2 w=>⟨_,by simp [execOp,ho,e1,e2,eqGuard_shr,binOp_shr,Op.shift,hneg]<;>rfl,rfl,rfl⟩⟩
  ·split at h
   ·rename_i hk;subst hk;unfold binInt at h;split at h
    ·exact ⟨_,h,fin _ fun a e1 e2 w=>⟨_,by simp [execOp,ho,e1,e2,eqGuard_add,binOp_add,Op.intArith],rfl,rfl⟩⟩
    ·exact ⟨_,h,fin _ fun a e1 e2 w=>⟨_,by simp [execOp,ho,e1,e2,eqGuard_sub,binOp_sub,Op.intArith],rfl,rfl⟩⟩
    ·exact ⟨_,h,fin _ fun a e1 e2 w=>⟨_,by simp [execOp,ho,e1,e2,eqGuard_mul,binOp_mul,Op.intArith],rfl,rfl⟩⟩
    ·split at h
     ·cases h
     ·rename_i h0;exact ⟨_,h,fin _ fun a e1 e2 w=>⟨_,by simp [execOp,ho,e1,e2,eqGuard_quo,binOp_quo,Op.intDiv,h0],rfl,rfl⟩⟩
    ·split at h
     ·cases h
     ·rename_i h0;exact ⟨_,h,fin _ fun a e1 e2 w=>⟨_,by simp [execOp,ho,e1,e2,eqGuard_rem,binOp_rem,Op.intDiv,h0],rfl,rfl⟩⟩
    ·exact ⟨_,h,fin _ fun a e1 e2 w=>⟨_,by simp [execOp,ho,e1,e2,eqGuard_and,binOp_and,Op.intBits]<;>rfl,rfl,rfl⟩⟩
    ·exact ⟨_,h,fin _ fun a e1 e2 w=>⟨_,by simp [execOp,ho,e1,e2,eqGuard_or,binOp_or,Op.intBits]<;>rfl,rfl,rfl⟩⟩
    ·exact ⟨_,h,fin _ fun a e1 e2 w=>⟨_,by simp [execOp,ho,e1,e2,eqGuard_xor,binOp_xor,Op.intBits]<;>rfl,rfl,rfl⟩⟩
    ·exact ⟨_,h,fin _ fun a e1 e2 w=>⟨_,by simp [execOp,ho,e1,e2,eqGuard_at_int,binOp_eql],rfl,rfl⟩⟩
    ·exact ⟨_,h,fin _ fun a e1 e2 w=>⟨_,by simp [execOp,ho,e1,e2,eqGuard_at_int,binOp_neq],rfl,rfl⟩⟩
    ·exact ⟨_,h,fin _ fun a e1 e2 w=>⟨_,by simp [execOp,ho,e1,e2,eqGuard_at_int,binOp_lss],rfl,rfl⟩⟩
    ·exact ⟨_,h,fin _ fun a e1 e2 w=>⟨_,by simp [execOp,ho,e1,e2,eqGuard_at_int,binOp_leq],rfl,rfl⟩⟩
    ·exact ⟨_,h,fin _ fun a e1 e2 w=>⟨_,by simp [execOp,ho,e1,e2,eqGuard_at_int,binOp_gtr],rfl,rfl⟩⟩
    ·exact ⟨_,h,fin _ fun a e1 e2 w=>⟨_,by simp [execOp,ho,e1,e2,eqGuard_at_int,binOp_geq],rfl,rfl⟩⟩
    ·cases h
   ·cases h
 ·rename_i u v;split at h
  ·rename_i htb
   have ht:E.P.underlying t=some .bool:=by
    unfold isBoolT at htb;split at htb
    ·assumption
    ·cases htb
   split at h
   ·refine ⟨_,h,zdb hc hx hd hy fun {a w N s' hd F} hm I h1 h2=>⟨.bool (u==v),?_,rfl,rfl⟩⟩;have e1:=zsF h1;have e2:=zsF h2;simp [execOp,ho,e1,e2,eqGuard_at_bool,binOp,run_equal_bool _ _ _ _ ht]
   ·refine ⟨_,h,zdb hc hx hd hy fun {a w N s' hd F} hm I h1 h2=>⟨.bool (!(u==v)),?_,rfl,rfl⟩⟩;have e1:=zsF h1;have e2:=zsF h2;simp [execOp,ho,e1,e2,eqGuard_at_bool,binOp,run_equal_bool _ _ _ _ ht]
   ·cases h
  ·cases h
 ·rename_i u v
  have fin: ∀z:C,(∀a:Act,a.eval x= .string ⟨⟨u⟩⟩->a.eval y= .string ⟨⟨v⟩⟩-> ∀w,∃q,(execOp a.eval o).run E.P w= .ok (.value q) w∧ ∀ {m:Mem} {N:Nat->Prop} {s:Sto} {hd:Nat->Value},RepC m N s hd z q)->Good E X o st {v:= .one z,s:=st.o,r:= []}:=by
   intro z hz;refine zdb hc hx hd hy fun {a w N s' hd F} hm I h1 h2=>?_
   obtain ⟨q,h3,h4⟩:=hz a (zsn h1) (zsn h2) w;exact ⟨q,h3,h4⟩
  unfold binStr at h;split at h
  ·split at h
   ·rename_i hlen;refine ⟨_,h,fin _ fun a e1 e2 w=>⟨.string ⟨⟨u++v⟩⟩,?_,rfl,rfl⟩⟩;have hsz: ¬(9223372036854775807<((List.length u:Nat):Int)+((List.length v:Nat):Int)):=by omega
    simp [execOp,ho,e1,e2,eqGuard_at_string,binOp,Op.stringOp,zHU,zw7,hsz]
   ·cases h
  ·exact ⟨_,h,fin _ fun a e1 e2 w=>⟨.bool (u==v),by simp [execOp,ho,e1,e2,eqGuard_at_string,binOp,Op.stringOp,zqI],rfl,rfl⟩⟩
  ·exact ⟨_,h,fin _ fun a e1 e2 w=>⟨.bool (!(u==v)),by simp [execOp,ho,e1,e2,eqGuard_at_string,binOp,Op.stringOp,zqI],rfl,rfl⟩⟩
  ·exact ⟨_,h,fin _ fun a e1 e2 w=>⟨.bool (Op.bytesLess u v),by simp [execOp,ho,e1,e2,eqGuard_at_string,binOp,Op.stringOp,zqI],rfl,rfl⟩⟩
  ·exact ⟨_,h,fin _ fun a e1 e2 w=>⟨.bool (Op.bytesLess u v || u==v),by simp [execOp,ho,e1,e2,eqGuard_at_string,binOp,Op.stringOp,zqI],rfl,rfl⟩⟩
  ·exact ⟨_,h,fin _ fun a e1 e2 w=>⟨.bool (!(Op.bytesLess u v || u==v)),by simp [execOp,ho,e1,e2,eqGuard_at_string,binOp,Op.stringOp,zqI],rfl,rfl⟩⟩
  ·exact ⟨_,h,fin _ fun a e1 e2 w=>⟨.bool (!Op.bytesLess u v),by simp [execOp,ho,e1,e2,eqGuard_at_string,binOp,Op.stringOp,zqI],rfl,rfl⟩⟩
  ·cases h
 ·cases h
theorem zFd {c:C} {s:Sto} {K:(e:Ty)->List e.den->List Nat->Option R} (h:getSl c s K=some r):
  ∃e xs m,K e xs m=some r∧ ∀s':Sto,(∀i∈m,s' i=s i)-> ∀ {mem:Mem} {N:Nat->Prop} {hd:Nat->Value} {F:Nat->List Nat} {size:Nat},SInv mem N s' hd F size-> ∀v,RepC mem N s' hd c v->
   ∃N',(e.isImm=true->RepT mem N' (.sl e) xs [v] [])∧(∀k,N k->N' k)∧(∀k,N' k->N k∨ ∃i∈m,k∈F i)∧ ∃a cap,v= .slice a (List.length xs) cap:=by
 have slice_len: ∀ {mem:Mem} {N':Nat->Prop} {e:Ty} {xs:List e.den} {v:Value},RepT mem N' (.sl e) xs [v] []-> ∃a cap,v= .slice a (List.length xs) cap:=by
  intro mem N' e xs v hh;obtain ⟨_,a,cap,es,e1,_⟩:=hh;exact ⟨a,cap,by simpa using e1⟩
 have sub_len: ∀ {v hdv:Value} {a:Option Addr} {n cap sz lo hi:Nat},hdv= .slice a n cap->v=subV hdv sz lo hi-> ∃a' cap',v= .slice a' (hi-lo) cap':=by
  intro v hdv a n cap sz lo hi h1 h2;subst h1;exact ⟨_,_,h2⟩
 cases c with
 | imm τ x=>
  cases τ with
  | sl e=>
   refine ⟨e,x,[],h,fun s' _ mem N hd F size I v hv=>⟨N,fun _=>hv,fun _ h=>h,fun _ h=> .inl h,slice_len hv⟩⟩
  | _=>cases h
 | own id ver=>
  simp only [getSl] at h;split at h
  ·rename_i v e xs hs;split at h
   ·rename_i hv;subst hv;refine ⟨e,xs,[id],h,fun s' hs' mem N hd F size I u hu=>?_⟩;have hid:=hs' id (by simp);rw [hs] at hid;have hob:=I.obj id;rw [hid] at hob;have e1:=RepC.own_hd hu hid rfl;subst e1;exact ⟨fun k=>N k∨k∈F id,fun he=>RepT.read0 he (fun b hb=> .inl hb) (fun k hk=> .inr hk) hob,fun _ h=> .inl h,fun k hk=>hk.imp (fun h=>h) (fun h=>⟨id,by simp,h⟩),RepT.own_len hob⟩
   ·cases h
  ·rename_i v e xs hs;split at h
   ·rename_i hv;subst hv;refine ⟨e,xs,[id],h,fun s' hs' mem N hd F size I u hu=>?_⟩;have hid:=hs' id (by simp);rw [hs] at hid;have hob:=I.obj id;rw [hid] at hob;have e1:=RepC.own_hd hu hid rfl;subst e1;exact ⟨N,fun _=>hob.2,fun _ h=>h,fun _ h=> .inl h,slice_len hob.2⟩
   ·cases h
  ·cases h
 | sub id ver lo hi=>
  simp only [getSl] at h;split at h
  ·rename_i v e xs hs;split at h
   ·rename_i hv;subst hv;refine ⟨e,_,[id],h,fun s' hs' mem N hd F size I u hu=>?_⟩;have hid:=hs' id (by simp);rw [hs] at hid;have hob:=I.obj id;rw [hid] at hob;obtain ⟨e1,e2,e3⟩:=RepC.sub_hd hu hid rfl;obtain ⟨a,cap,hl⟩:=RepT.own_len hob
    have hle:List.length ((xs.take hi).drop lo)=hi-lo:=by
     have e3':hi<=List.length xs:=e3;rw [List.length_drop,List.length_take];omega
    refine ⟨fun k=>N k∨k∈F id,fun he=>?_,fun _ h=> .inl h,fun k hk=>hk.imp (fun h=>h) (fun h=>⟨id,by simp,h⟩),?_⟩
    ·have:=RepT.read0 (N':=fun k=>N k∨k∈F id) he (fun b hb=> .inl hb) (fun k hk=> .inr hk) hob;rw [e1];exact RepT.slice this e2 e3
    ·rw [hle];exact sub_len hl e1
   ·cases h
  ·rename_i v e xs hs;split at h
   ·rename_i hv;subst hv;refine ⟨e,_,[id],h,fun s' hs' mem N hd F size I u hu=>?_⟩;have hid:=hs' id (by simp);rw [hs] at hid;have hob:=I.obj id;rw [hid] at hob;obtain ⟨e1,e2,e3⟩:=RepC.sub_hd hu hid rfl;have hr:=RepT.slice hob.2 e2 e3;subst e1;exact ⟨N,fun _=>hr,fun _ h=>h,fun _ h=> .inl h,slice_len hr⟩
   ·cases h
  ·cases h
 | _=>cases h
theorem zwL {P:Program} {w:World} {ts:Array TypeId} {t:TypeId} {te:TypeId} (h0:ts[0]?=some t) (h:P.underlying t=some (.slice te)) (ty:TypeId) (a:Option Addr) (n c:Nat):(Builtin.len_ ts ty #[.slice a n c]).run P w= .ok (.int .i64 n) w:=by
 simp [Builtin.len_,h0,run_underlying h,goInt]
theorem zJt {ca:Call} {x:Operand} (ho:o.op= .call ca) (hca:ca.callee= .builtin .len) (hargs:ca.args.toList= [x]) (h:exOp E O o st K=some r): ∃e,K e=some r∧Good E X o st e:=by
 have hargs':ca.args= #[x]:=by rw [<-Array.toArray_toList (xs:=ca.args),hargs]
 have hx:x∈o.op.operands:=by rw [ho];simp [Op.operands,Call.operands,hca,hargs']
 simp only [exOp,ho,hca,hargs] at h
 replace h:=zax h
 obtain ⟨c,hc,h⟩:=h
 have hty: ∀d,ca.argTypes0 E.P=some d-> ∃t,ca.argTypes[0]?=some t∧E.P.underlying t=some d:=by
  intro d hd;unfold Go.Call.argTypes0 at hd;exact qS.1 hd
 unfold lenC at h;split at h
 ·rename_i ht;obtain ⟨t,h0,hu⟩:=hty _ ht;split at h
  ·rename_i y;refine ⟨_,h,zdi hc hx fun {a w N s' hd F} hm I hv=>⟨.int .i64 (List.length y:Nat),?_,rfl,rfl⟩⟩;have e1:=zsn hv;simp [execOp,ho,resolve,hca,hargs',invoke,builtin,Builtin.len_,h0,run_underlying hu,e1,goInt,zw7]
  ·cases h
 ·rename_i te ht;obtain ⟨t,h0,hu⟩:=hty _ ht;split at h
  ·refine ⟨_,h,zdi hc hx fun {a w N s' hd F} hm I hv=>?_⟩;obtain ⟨a',e1⟩:=hv;exact ⟨.int .i64 (0:Nat),by simp [execOp,ho,resolve,hca,hargs',invoke,builtin,e1,zwL h0 hu],rfl,rfl⟩
  ·obtain ⟨e,xs,m,h,hg⟩:=zFd h;refine ⟨_,h,zdi hc hx fun {a w N s' hd F} hm I hv=>?_⟩;obtain ⟨N',_,_,_,a',cap,e1⟩:=hg s' hm I _ hv;exact ⟨.int .i64 (List.length xs:Nat),by simp [execOp,ho,resolve,hca,hargs',invoke,builtin,e1,zwL h0 hu],rfl,rfl⟩
 ·rename_i ht;obtain ⟨t,h0,hu⟩:=hty _ ht;split at h
  ·rename_i id ver;split at h
   ·rename_i v τ xs hs;split at h
    ·rename_i hv';subst hv';refine ⟨_,h,zdi hc hx fun {a w N s' hd F} hm I hv=>?_⟩;have hid:=hm id (by simp);rw [hs] at hid;have hob:=I.obj id;rw [hid] at hob;have e0:a.eval x=hd id:=hv.2.2 (by rw [hid]) (by rw [hid];rfl);obtain ⟨g,es,clock,e1,e2,e3,_,_⟩:=hob;have e1':hd id= .map (some g):=by simpa using e1
     rw [e1'] at e0;have hg:w.heap[g]?=some (.map es clock):=e2;exact ⟨.int .i64 (List.length xs:Nat),by simp [execOp,ho,resolve,hca,hargs',invoke,builtin,Builtin.len_,h0,run_underlying hu,e0,MapKept.run_getObj_map hg,goInt,e3],rfl,rfl⟩
    ·cases h
   ·cases h
  ·cases h
 ·cases h
theorem zAd {ca:Call} {x y:Operand} (ho:o.op= .call ca) (hca:ca.callee= .builtin .min∨ca.callee= .builtin .max) (hargs:ca.args.toList= [x,y]) (h:exOp E O o st K=some r): ∃e,K e=some r∧Good E X o st e:=by
 have hargs':ca.args= #[x,y]:=by rw [<-Array.toArray_toList (xs:=ca.args),hargs]
 have hx:x∈o.op.operands:=by rw [ho];rcases hca with hca | hca<;>simp [Op.operands,Call.operands,hca,hargs']
 have hy:y∈o.op.operands:=by rw [ho];rcases hca with hca | hca<;>simp [Op.operands,Call.operands,hca,hargs']
 rcases hca with hca | hca
 all_goals
  simp only [exOp,ho,hca,hargs] at h
  replace h:=zax h
  obtain ⟨c,hc,h⟩:=h
  replace h:=zax h
  obtain ⟨d,hd,h⟩:=h;split at h
  ·refine ⟨_,h,zdb hc hx hd hy fun {a w N s' hd F} hm I h1 h2=>⟨.int _ _,?_,rfl,rfl⟩⟩;have e1:=zcQ h1;have e2:=zcQ h2;simp [execOp,ho,resolve,hca,hargs',invoke,builtin,Builtin.min_,Builtin.max_,Builtin.min2,Builtin.max2,e1,e2]
  ·cases h
theorem zGr {t:TypeId} {x i:Operand} (ho:o.op= .index t x i) (h:exOp E O o st K=some r): ∃e,K e=some r∧Good E X o st e:=by
 have hx:x∈o.op.operands:=by rw [ho];simp [Op.operands]
 have hi:i∈o.op.operands:=by rw [ho];simp [Op.operands]
 simp only [exOp,ho] at h
 replace h:=zax h
 obtain ⟨c,hc,h⟩:=h;split at h
 ·rename_i s
  replace h:=zax h
  obtain ⟨d,hd,h⟩:=h;split at h
  ·rename_i k j;split at h
   ·rename_i hu;obtain ⟨b,hb,h⟩:=qS.1 h;refine ⟨_,h,zdb hc hx hd hi fun {a w N s' hd F} hm I h1 h2=>⟨.int .u8 (b.toNat:Nat),?_,rfl,rfl⟩⟩;have e1:=zsn h1;have e2:=zcQ h2;unfold idx at hb;split at hb
    ·rename_i h0
     have hg:(ByteArray.mk ⟨s⟩)[Int.toNat j]?=some b:=by
      obtain ⟨hlt,hg⟩:=qW.1 hb;have hs:Int.toNat j<(ByteArray.mk ⟨s⟩).size:=by rw [zw7];exact hlt
      have hp:(ByteArray.mk ⟨s⟩)[Int.toNat j]?=some ((ByteArray.mk ⟨s⟩)[Int.toNat j]'hs):=getElem?_pos (ByteArray.mk ⟨s⟩) _ hs;rw [hp];exact congrArg some hg
     simp [execOp,ho,Instr.index,run_underlying hu,e1,e2,asIntOf,h0,hg]
    ·cases hb
   ·cases h
  ·cases h
 ·cases h
end
section
variable {R : Type} {r : R}
theorem zrR {n:Nat} {st:St} {lo hi:Option Operand} {K:Nat->Nat->Option R} (h:boundsK (n:Int) (lo.map st.eval) (hi.map st.eval) K=some r):
  ∃l u,K l u=some r∧l<=u∧u<=n∧ ∀ev:Operand->Value,(∀x,lo=some x∨hi=some x-> ∀k i,st.eval x= .one (.imm (.int k) i)->ev x= .int k i)->
   ∀(P:Program) (w:World) (b:Bool) (cap:Nat),n<=cap->(Instr.sliceBounds b n cap (lo.map ev) (hi.map ev) none).run P w= .ok (l,u,cap) w:=by
 have fin: ∀(l u:Int),(if 0<=l∧l<=u∧u<=(n:Int) then K l.toNat u.toNat else none)=some r->(∀(ev:Operand->Value),(∀x,lo=some x∨hi=some x-> ∀k i,st.eval x= .one (.imm (.int k) i)->ev x= .int k i)->
   ((lo=none∧l=0)∨ ∃x k,lo=some x∧ev x= .int k l)∧((hi=none∧u=n)∨ ∃x k,hi=some x∧ev x= .int k u))->
   ∃l u,K l u=some r∧l<=u∧u<=n∧ ∀ev:Operand->Value,(∀x,lo=some x∨hi=some x-> ∀k i,st.eval x= .one (.imm (.int k) i)->ev x= .int k i)->
   ∀(P:Program) (w:World) (b:Bool) (cap:Nat),n<=cap->(Instr.sliceBounds b n cap (lo.map ev) (hi.map ev) none).run P w= .ok (l,u,cap) w:=by
  intro l u hk hv;split at hk
  ·rename_i hb;obtain ⟨b1,b2,b3⟩:=hb;refine ⟨l.toNat,u.toNat,hk,by omega,by omega,fun ev he P w b cap hc=>?_⟩;have hu:((u.toNat:Nat):Int)=u:=Int.toNat_of_nonneg (by omega);have hl:((l.toNat:Nat):Int)=l:=Int.toNat_of_nonneg b1;obtain ⟨h1,h2⟩:=hv ev he;have s1: ∀k c,(Instr.sliceBound (.int k u) cap c).run P w= .ok u.toNat w:=fun k c=>run_sliceBound w k u cap c (by omega) (by omega)
   have s2: ∀k c,(Instr.sliceBound (.int k l) u.toNat c).run P w= .ok l.toNat w:=fun k c=>run_sliceBound w k l _ c b1 (by omega)
   rcases h2 with ⟨rfl,e2⟩ | ⟨y,k2,rfl,e2⟩
   ·have e3:u.toNat=n:=by omega
    rw [e3] at s2;rw [e3];rcases h1 with ⟨rfl,e1⟩ | ⟨x,k,rfl,e1⟩
    ·have e4:l.toNat=0:=by omega
     rw [e4];cases b<;>simp [Instr.sliceBounds]
    ·cases b<;>simp [Instr.sliceBounds,e1,s2]
   ·rcases h1 with ⟨rfl,e1⟩ | ⟨x,k,rfl,e1⟩
    ·have e4:l.toNat=0:=by omega
     rw [e4];cases b<;>simp [Instr.sliceBounds,e2,s1]
    ·cases b<;>simp [Instr.sliceBounds,e1,e2,s1,s2]
  ·cases hk
 unfold boundsK at h;dsimp only at h
 cases lo with
 | none=>
  cases hi with
  | none=>exact fin _ _ h fun ev he=>⟨.inl ⟨rfl,rfl⟩,.inl ⟨rfl,rfl⟩⟩
  | some y=>
   simp only [Option.map_none,qY] at h;split at h
   ·cases ‹some (st.eval y)=none›
   ·rename_i k i hy;simp only [qI] at hy;exact fin _ _ h fun ev he=>⟨.inl ⟨rfl,rfl⟩,.inr ⟨y,k,rfl,he y (.inr rfl) k i hy⟩⟩
   ·cases h
 | some x=>
  simp only [qY] at h;split at h
  ·cases ‹some (st.eval x)=none›
  ·rename_i k i hx;simp only [qI] at hx
   cases hi with
   | none=>exact fin _ _ h fun ev he=>⟨.inr ⟨x,k,rfl,he x (.inl rfl) k i hx⟩,.inl ⟨rfl,rfl⟩⟩
   | some y=>
    simp only [qY] at h;split at h
    ·cases ‹some (st.eval y)=none›
    ·rename_i k' i' hy;simp only [qI] at hy;exact fin _ _ h fun ev he=>⟨.inr ⟨x,k,rfl,he x (.inl rfl) k i hx⟩,.inr ⟨y,k',rfl,he y (.inr rfl) k' i' hy⟩⟩
    ·cases h
  ·cases h
end
section
variable {E : Env} {O : Oracle E} {X : Ctx} {o : Oper} {st : St} {R : Type} {K : Eff -> Option R} {r : R}
theorem zp2 {P:Program} {w:World} {t te:TypeId} (ht:P.underlying t=some (.slice te)) (hs:szP P te≠0) {a:Option Addr} {n cap l u:Nat} {lo hi:Option Value}
  (hb:(Instr.sliceBounds true n cap lo hi none).run P w= .ok (l,u,cap) w):(Instr.sliceAt t (.slice a n cap) lo hi none).run P w= .ok (subV (.slice a n cap) (szP P te) l u) w:=by
 have hsz:=zms hs w;simp [Instr.sliceAt,Instr.slice,run_underlying ht,hb,hsz,subV]
theorem zHf {t:TypeId} {x:Operand} {lo hi mx:Option Operand} (ho:o.op= .slice t x lo hi mx) (h:exOp E O o st K=some r): ∃e,K e=some r∧Good E X o st e:=by
 have hx:x∈o.op.operands:=by rw [ho];simp [Op.operands]
 have hlo: ∀y,lo=some y∨hi=some y->y∈o.op.operands:=by
  intro y hy;rw [ho];rcases hy with rfl | rfl<;>simp [Op.operands]
 simp only [exOp,ho] at h
 cases mx with
 | some _=>cases h
 | none=>
 replace h:=zax h
 obtain ⟨c,hc,h⟩:=h
 have gen: ∀ {v:V} {s:Sto} {rd:List Nat},(∀ {a:Act} {w:World} {N:Nat->Prop} {s':Sto} {hd:Nat->Value} {F:Nat->List Nat},(∀i∈rd,s' i=st.o i)->SInv (memOf w) N s' hd F w.heap.size->RepC (memOf w) N s' hd c (a.eval x)->
   (∀y,lo=some y∨hi=some y-> ∀k i,st.eval y= .one (.imm (.int k) i)->a.eval y= .int k i)->
   ∃u,(Instr.sliceAt t (a.eval x) (lo.map a.eval) (hi.map a.eval) none).run E.P w= .ok u w∧RepV (memOf w) N s' hd v u)->Good E X o st {v,s,r:=rd}:=by
  intro v s rd hg;refine Good.val fun st' he hm a w N hd' F I=>?_
  have h1:=I.eval x;rw [he x hx,hc] at h1
  obtain ⟨u,h2,h3⟩:=hg hm I.s h1 fun y hy k i hyi=>by
   have h2:=I.eval y;rw [he y (hlo y hy),hyi] at h2;exact zcQ (m:=memOf w) (N:=N) (s:=st'.o) (hd:=hd') h2
  exact ⟨u,by simp [execOp,ho,h2],h3⟩
 have ew: ∀ {d:TypeDesc},E.P.underlying t=some d-> ∀ {te},d= .slice te->(elemP E.P t).getD 0=te:=by
  intro d hd te e;subst e;simp [elemP,hd]
 unfold sliceK at h;split at h
 ·rename_i y hu;obtain ⟨l,u,h,h1,h2,hb⟩:=zrR h;refine ⟨_,h,gen fun {a w N s' hd F} hm I hv he=>⟨.string ⟨⟨(y.take u).drop l⟩⟩,?_,rfl,rfl⟩⟩;have e1:=zsn hv;have hb':=hb a.eval he E.P w false _ (ql _);simp [Instr.sliceAt,Instr.slice,run_underlying hu,e1,zw7,hb',zBl]
 ·rename_i te e y hu;split at h
  ·rename_i hsz;obtain ⟨l,u,h,h1,h2,hb⟩:=zrR h;rw [ew hu rfl] at hsz;refine ⟨_,h,gen fun {a w N s' hd F} hm I hv he=>?_⟩;have hv':=RepT.slice hv h1 h2;obtain ⟨_,ad,cap,es,e1,hcap,_⟩:=hv;have e1':a.eval x= .slice ad (List.length y) cap:=by simpa using e1
   rw [e1'] at hv' ⊢;rw [hsz.1] at hv';exact ⟨_,zp2 hu hsz.2 (hb a.eval he E.P w true cap hcap),hv'⟩
  ·cases h
 ·rename_i te hu;split at h
  ·rename_i hsz;rw [ew hu rfl] at hsz;obtain ⟨l,u,h,h1,h2,hb⟩:=zrR (n:=0) h;refine ⟨_,h,gen fun {a w N s' hd F} hm I hv he=>?_⟩;obtain ⟨ad,e1⟩:=hv;have hu0:u=0:=by omega
   have hl0:l=0:=by omega
   subst hu0;subst hl0;rw [e1];exact ⟨_,zp2 hu hsz (hb a.eval he E.P w true 0 (ql _)),ad,by simp [subV]⟩
  ·cases h
 ·rename_i te id ver hu;split at h
  ·rename_i v e xs hs;split at h
   ·rename_i hsz;obtain ⟨rfl,hsz,hsz'⟩:=hsz;rw [ew hu rfl] at hsz hsz';obtain ⟨l,u,h,h1,h2,hb⟩:=zrR h;refine ⟨_,h,gen fun {a w N s' hd F} hm I hv he=>?_⟩;have hid:=hm id (by simp);rw [hs] at hid;have hob:=I.obj id;rw [hid] at hob;have e1:=RepC.own_hd hv hid rfl;obtain ⟨ad,cap,hl⟩:=RepT.own_len hob
    have hcap:List.length xs<=cap:=by
     rcases hob with ⟨_,q1,q2,_⟩ | ⟨g,cap',c,T,es,Fs,q1,q2,q3,q4,_⟩
     ·subst q2;simp
     ·rw [hl] at q1;simp at q1;obtain ⟨_,rfl⟩:=q1;exact q4
    rw [e1,hl];refine ⟨_,zp2 hu hsz' (hb a.eval he E.P w true cap hcap),?_,?_,fun q1 q2=>⟨?_,h1,?_⟩⟩
    ·rw [hid];exact ql _
    ·exact zKk rfl _ _ _
    ·rw [hid,hl];show _=subV _ e.sz l u;rw [hsz]
    ·rw [hid];exact h2
   ·cases h
  ·rename_i v e xs hs;split at h
   ·rename_i hsz;obtain ⟨rfl,hsz,hsz'⟩:=hsz;rw [ew hu rfl] at hsz hsz';obtain ⟨l,u,h,h1,h2,hb⟩:=zrR h;refine ⟨_,h,gen fun {a w N s' hd F} hm I hv he=>?_⟩;have hid:=hm id (by simp);rw [hs] at hid;have hob:=I.obj id;rw [hid] at hob;have e1:=RepC.own_hd hv hid rfl;have hv':=RepT.slice hob.2 h1 h2;obtain ⟨_,_,ad,cap,es,e2,hcap,_⟩:=hob;have e2':hd id= .slice ad (List.length xs) cap:=by simpa using e2
    rw [e1,e2'];rw [e2',hsz] at hv';exact ⟨_,zp2 hu hsz' (hb a.eval he E.P w true cap hcap),hv'⟩
   ·cases h
  ·cases h
 ·cases h
theorem zET {α:Type} {xs:List α} {i:Int} {x:α} (h:idx xs i=some x):0<=i∧i.toNat<xs.length∧xs[i.toNat]?=some x:=by
 unfold idx at h;split at h
 ·rename_i h0;exact ⟨h0,(qW.1 h).1,h⟩
 ·cases h
theorem zn0 {P:Program} {w:World} {t te:TypeId} (ht:P.underlying t=some (.slice te)) (hs:szP P te≠0) {a:Addr} {n cap:Nat} {k:IntKind} {i:Int} (h0:0<=i) (h1:i<n):
  (Instr.indexAt t (.slice (some a) n cap) (.int k i)).run P w= .ok (.pointer (some (a.add (i.toNat*szP P te)))) w:=by
 have hsz:=zms hs w;simp [Instr.indexAt,run_underlying ht,asIntOf,h0,h1,hsz]
theorem zDg {P:Program} {t:TypeId} {n:Nat} {te:TypeId} (h:arrP P t=some (n,te)):P.underlying t=some (.array n te):=by
 unfold arrP at h;split at h
 ·rename_i n' e' hu;simp only [qI,qU] at h;rw [hu,h.1,h.2]
 ·cases h
theorem zAb {R:Type} {r:R} {K:Nat->Option R} {i:Int}: ∀(n k:Nat),splitI n k i K=some r-> ∃j,j<n∧i=((k+j:Nat):Int)∧K (k+j)=some r
 | 0,_,h=>by cases h
 | n+1,k,h=>by
  unfold splitI at h;split at h
  ·rename_i hi;exact ⟨0,by omega,by simpa using hi,h⟩
  ·obtain ⟨j,h1,h2,h3⟩:=zAb n (k+1) h;exact ⟨j+1,by omega,by rw [h2];omega,by rw [show k+(j+1)=k+1+j by omega];exact h3⟩
theorem zEu {P:Program} {w:World} {t te:TypeId} {n:Nat} (ht:P.underlying t=some (.array n te)) (hs:szP P te=1) (hn:2<=n) {a:Addr} {k:IntKind} {j:Nat} (h1:j<n):
  (Instr.indexAt t (.pointer (some a)) (.int k (j:Int))).run P w= .ok (.pointer (some (a.add j))) w:=by
 have hsz:=zms (P:=P) (t:=te) (by rw [hs];decide) w;have h2: ¬(n<=1):=by omega
 simp [Instr.indexAt,run_underlying ht,asIntOf,h1,hsz,hs,Instr.sureAddr,h2]
theorem RepT.elem {m:Mem} {N:Nat->Prop} {e:Ty} {xs:List e.den} {v:Value} (h:RepT m N (.sl e) xs [v] []) {j:Nat} {x:e.den} (hj:xs[j]?=some x):
  ∃b off cap es,v= .slice (some ⟨b,off,none⟩) (List.length xs) cap∧N b∧RepT m N e x es []∧cellsIn m b (off+j*e.sz) es:=by
 obtain ⟨_,a,cap,es,e1,hcap,hl,hr,hm⟩:=h;obtain ⟨hlt,hx⟩:=qW.1 hj;have hne:xs≠ []:=by intro hh;rw [hh] at hlt;simp at hlt
 obtain ⟨b,off,rfl,hb,hc⟩:=hm hne;have hr':=hr j hlt (by omega);rw [hx] at hr';refine ⟨b,off,cap,es[j]'(by omega),by simpa using e1,hb,hr',?_⟩
 have hlen: ∀y∈es,y.length=e.sz:=by
  intro y hy;obtain ⟨i,hi,rfl⟩:=qH.1 hy;exact (hr i (by omega) hi).len
 have hs:=hc.sub (j*e.sz) (1*e.sz);rw [zev es j hlen,zgJ (es.drop j) 1 (fun x hx=>hlen x (List.mem_of_mem_drop hx))] at hs
 have he:(es.drop j).take 1= [es[j]'(by omega)]:=by
  rw [qj (show j<es.length by omega)];rfl
 rw [he] at hs;simpa using hs
theorem zCu {t:TypeId} {x i:Operand} (ho:o.op= .indexAddr t x i) (h:exOp E O o st K=some r): ∃e,K e=some r∧Good E X o st e:=by
 have hx:x∈o.op.operands:=by rw [ho];simp [Op.operands]
 have hi:i∈o.op.operands:=by rw [ho];simp [Op.operands]
 simp only [exOp,ho] at h
 replace h:=zax h
 obtain ⟨c,hc,h⟩:=h
 replace h:=zax h
 obtain ⟨d,hd,h⟩:=h;split at h
 ·rename_i k j0;obtain ⟨j,hj'⟩: ∃z:Int,z=j0:=⟨j0,rfl⟩;subst hj';split at h
  ·split at h
   ·rename_i n te id v off harr;have hu:=zDg harr;split at h
    ·rename_i hcond;obtain ⟨hv,hB,hs1,hn2⟩:=hcond;obtain ⟨q,q1,q2,h⟩:=zAb n 0 h;refine ⟨_,h,zdb hc hx hd hi fun {a w N s' hd F} hm I h1 h2=>?_⟩;have hid:=hm id (by simp);have e2:=zcQ h2;obtain ⟨g,g1,g2⟩:=h1.2.2 (by rw [hid];exact hv) (by rw [hid];exact hB);rw [qJ] at q2;subst q2;refine ⟨.pointer (some ⟨g,off+q,none⟩),by simp [execOp,ho,e2,g2,zEu hu hs1 hn2 q1,Addr.add],?_,rfl,fun z1 z2=>⟨g,g1,by rw [qJ]⟩⟩;exact h1.1
    ·cases h
   ·cases h
  ·rename_i te hte;have hu:=zqQ hte;split at h
   ·cases h
   ·rename_i hsz;split at h
    ·rename_i e xs;split at h
     ·rename_i hez;obtain ⟨y,hy,h⟩:=qS.1 h;obtain ⟨y0,y1,y2⟩:=zET hy;refine ⟨_,h,zdb hc hx hd hi fun {a w N s' hd F} hm I h1 h2=>?_⟩;have e2:=zcQ h2;obtain ⟨b,off,cap,es,e1,hb,hr,hcl⟩:=RepT.elem h1 y2;refine ⟨_,?_,b,_,es,rfl,hb,hr,hcl⟩;have hlt:j<((List.length xs:Nat):Int):=by omega
      simp [execOp,ho,e1,e2,zn0 hu hsz y0 hlt,Addr.add_none,hez]
     ·cases h
    ·rename_i id ver;split at h
     ·rename_i v e xs hs;split at h
      ·rename_i hez;obtain ⟨rfl,hez⟩:=hez;split at h
       ·rename_i hb0;have hb:0<=j∧j<((List.length xs:Nat):Int):=hb0;refine ⟨_,h,zdb hc hx hd hi fun {a w N s' hd F} hm I h1 h2=>?_⟩;have hid:=hm id (by simp);rw [hs] at hid;have hob:=I.obj id;rw [hid] at hob;have e1:=RepC.own_hd h1 hid rfl;have e2:=zcQ h2;rcases hob with ⟨_,q1,q2,_⟩ | ⟨g,cap,c,T,es,Fs,q1,_⟩
        ·subst q2;simp at hb;omega
        ·have q1':hd id= .slice (some ⟨g,0,none⟩) (List.length xs) cap:=by simpa using q1
         rw [q1'] at e1;refine ⟨.pointer (some ⟨g,j.toNat*szP E.P te,none⟩),by simp [execOp,ho,e1,e2,zn0 hu hsz hb.1 hb.2,Addr.add_none],?_,rfl,fun z1 z2=>⟨g,_,_,q1',?_⟩⟩
         ·rw [hid];exact ql _
         ·rw [hid];show _=Value.pointer (some ⟨g,j.toNat*e.sz+0,none⟩);rw [hez];rfl
       ·cases h
      ·cases h
     ·rename_i v e xs hs;split at h
      ·rename_i hez;obtain ⟨rfl,hez⟩:=hez;obtain ⟨y,hy,h⟩:=qS.1 h;obtain ⟨y0,y1,y2⟩:=zET hy;refine ⟨_,h,zdb hc hx hd hi fun {a w N s' hd F} hm I h1 h2=>?_⟩;have hid:=hm id (by simp);rw [hs] at hid;have hob:=I.obj id;rw [hid] at hob;have e0:=RepC.own_hd h1 hid rfl;have e2:=zcQ h2;obtain ⟨b,off,cap,es,e1,hb,hr,hcl⟩:=RepT.elem hob.2 y2;rw [e1] at e0;refine ⟨_,?_,b,_,es,rfl,hb,hr,hcl⟩;have hlt:j<((List.length xs:Nat):Int):=by omega
       simp [execOp,ho,e0,e2,zn0 hu hsz y0 hlt,Addr.add_none,hez]
      ·cases h
     ·rename_i v e xs i1 x1 off1 id1 ver1 hs;split at h
      ·rename_i hez;obtain ⟨rfl,hez⟩:=hez;split at h
       ·rename_i hb0;have hb:0<=j∧j<((List.length xs:Nat):Int):=hb0;refine ⟨_,h,zdb hc hx hd hi fun {a w N s' hd F} hm I h1 h2=>?_⟩;have hid:=hm id (by simp);rw [hs] at hid;have hob:=I.obj id;rw [hid] at hob;have e1:=RepC.own_hd h1 hid rfl;have e2:=zcQ h2;obtain ⟨_,_,_,_,_,_,⟨g,cap,q1'⟩,_⟩:=hob;rw [q1'] at e1;refine ⟨.pointer (some ⟨g,j.toNat*szP E.P te,none⟩),by simp [execOp,ho,e1,e2,zn0 hu hsz hb.1 hb.2,Addr.add_none],?_,rfl,fun z1 z2=>⟨g,_,_,q1',?_⟩⟩
        ·rw [hid];exact ql _
        ·rw [hid];show _=Value.pointer (some ⟨g,j.toNat*e.sz+0,none⟩);rw [hez];rfl
       ·cases h
      ·cases h
     ·cases h
    ·rename_i id ver lo u;split at h
     ·rename_i v e xs hs;split at h
      ·rename_i hez;obtain ⟨rfl,hez⟩:=hez;split at h
       ·rename_i hb0;have hb:0<=j∧j<((u:Nat):Int)-((lo:Nat):Int):=hb0;refine ⟨_,h,zdb hc hx hd hi fun {a w N s' hd F} hm I h1 h2=>?_⟩;have hid:=hm id (by simp);rw [hs] at hid;have hob:=I.obj id;rw [hid] at hob;obtain ⟨e1,l1,l2⟩:=RepC.sub_hd h1 hid rfl;have l2':u<=List.length xs:=l2;have e2:=zcQ h2;rcases hob with ⟨_,q1,q2,_⟩ | ⟨g,cap,c,T,es,Fs,q1,_,_,q4,_⟩
        ·subst q2;simp at l2';omega
        ·have q1':hd id= .slice (some ⟨g,0,none⟩) (List.length xs) cap:=by simpa using q1
         rw [q1'] at e1
         have e1':a.eval x= .slice (some ⟨g,lo*e.sz,none⟩) (u-lo) (cap-lo):=by
          rw [e1];show subV _ e.sz lo u=_;have hne:cap≠lo:=by omega
          simp [subV,hne,Addr.add_none]
         have hlt:j<((u-lo:Nat):Int):=by omega
         refine ⟨.pointer (some ⟨g,lo*e.sz+j.toNat*szP E.P te,none⟩),by simp [execOp,ho,e1',e2,zn0 hu hsz hb.1 hlt,Addr.add_none],?_,rfl,fun z1 z2=>⟨g,_,_,q1',?_⟩⟩
         ·rw [hid];exact ql _
         ·rw [hid];show _=Value.pointer (some ⟨g,(lo+j.toNat)*e.sz+0,none⟩);rw [hez,Nat.add_mul];rfl
       ·cases h
      ·cases h
     ·cases h
    ·cases h
 ·cases h
theorem zEQ (xs:List Int):(xs.map fun n=> [Value.int .u8 n]).flatten=xs.map (Value.int .u8):=by
 induction xs with
 | nil=>rfl
 | cons n xs ih=>simp [ih]
theorem zCJ {m:Mem} {N:Nat->Prop} {xs:List Int} {v:Value} (h:RepT m N (.sl (.int .u8)) xs [v] []) (hne:xs≠ []): ∃b off cap,v= .slice (some ⟨b,off,none⟩) xs.length cap∧cellsIn m b off (xs.map (Value.int .u8)):=by
 obtain ⟨_,a,cap,es,e1,hcap,hl,hr,hm⟩:=h;obtain ⟨b,off,rfl,hb,hc⟩:=hm hne;refine ⟨b,off,cap,by simpa using e1,?_⟩
 have:es.flatten=xs.map (Value.int .u8):=by
  have he:es=xs.map fun n=> [Value.int .u8 n]:=by
   apply List.ext_getElem
   ·rw [qV];exact hl
   ·intro i h1 h2;have hi:i<List.length xs:=by rw [<-hl];exact h1
    have:=(hr i hi h1).1;rw [this];simp
  rw [he];exact zEQ xs
 rwa [this] at hc
theorem zEY {src dst:TypeId} {x:Operand} (ho:o.op= .convert src dst x) (h:exOp E O o st K=some r): ∃e,K e=some r∧Good E X o st e:=by
 have hx:x∈o.op.operands:=by rw [ho];simp [Op.operands]
 simp only [exOp,ho] at h
 replace h:=zax h
 obtain ⟨c,hc,h⟩:=h;obtain ⟨c0,hc0⟩: ∃c0,c0=c:=⟨c,rfl⟩;rw [<-hc0] at hc;split at h
 ·rename_i d k k' n hs hd;subst hc0;refine ⟨_,h,zdi hc hx fun {a w N s' hd' F} hm I hv=>⟨.int k (k.wrap n),?_,rfl,rfl⟩⟩;have e1:=zcQ hv;have hk:E.P.intKind dst=k:=by simp [Program.intKind,hd]
  have:=run_convert_int (P:=E.P) w src dst k' n (by rw [hs];rfl) (by rw [hk];exact hd);rw [hk] at this;simp [execOp,ho,e1,this]
 ·rename_i d y hs hd;subst hc0;refine ⟨_,h,zdi hc hx fun {a w N s' hd' F} hm I hv=>⟨.string ⟨⟨y⟩⟩,?_,rfl,rfl⟩⟩;have e1:=zsn hv;simp [execOp,ho,e1,convert,run_underlying hs,run_underlying hd]
 ·rename_i e hs hd _;subst hc0;split at h
  ·rename_i he
   have key: ∀ {m:List Nat} {xs:List Int},(∀s':Sto,(∀i∈m,s' i=st.o i)-> ∀ {mem:Mem} {N:Nat->Prop} {hd:Nat->Value} {F:Nat->List Nat} {size:Nat},SInv mem N s' hd F size-> ∀v,RepC mem N s' hd c0 v->
     ∃N',RepT mem N' (.sl (.int .u8)) xs [v] [])->Good E X o st {v:= .one (.imm .str (bytesStr xs)),s:=st.o,r:=m}:=by
    intro m xs hg;refine zdi hc hx fun {a w N s' hd' F} hm I hv=>⟨.string ⟨⟨bytesStr xs⟩⟩,?_,rfl,rfl⟩
    obtain ⟨N',hr⟩:=hg s' hm I _ hv;by_cases hne:xs= []
    ·subst hne;obtain ⟨_,ad,cap,es,e1,_⟩:=hr;have e1':a.eval x= .slice ad 0 cap:=by simpa using e1
     have hz:(loadCells (ad.getD ⟨0,0,none⟩) 0).run E.P w= .ok #[] w:=by
      have:=run_loadCells_list (P:=E.P) w (ad.getD ⟨0,0,none⟩) [] (fun j v hj=>by simp at hj);simpa using this
     cases ad with
     | none=>
      have:=run_convert_bytes_nil (P:=E.P) w src e hs he 0 cap dst hd
      simp [execOp,ho,e1',this,bytesStr];rfl
     | some ad=>
      rw [show (execOp a.eval o)=(do pure (.value (<-convert src dst (a.eval x)))) by simp [execOp,ho]];rw [e1',Sem.run_bind,run_convert_bytes_string w src dst e ad 0 cap hs he hd,run_bytesToString w ad 0 cap [] (by simpa using hz)];simp [bytesStr];rfl
    ·obtain ⟨b,off,cap,e1,hcl⟩:=zCJ hr hne;have:=run_convert_bytes_arg (P:=E.P) w src e hs he b off xs.length cap xs rfl (fun i hi=>zq2 hcl i _ (by simp [List.getD,qu hi])) dst hd;simp [execOp,ho,e1,this,bytesStr,strOfNums]
   split at h
   ·refine ⟨_,h,?_⟩
    have:=key (m:= []) (xs:= []) fun s' _ mem N hd F size I v hv=>by
     obtain ⟨ad,rfl⟩:=hv;exact ⟨N,rfl,ad,0,[],rfl,ql _,rfl,fun i h=>absurd h (by simp),fun h=>absurd rfl h⟩
    exact this
   ·obtain ⟨e',xs,m,h,hg⟩:=zFd h;split at h
    ·refine ⟨_,h,key fun s' hm mem N hd F size I v hv=>?_⟩;obtain ⟨N',h1,_⟩:=hg s' hm I v hv;exact ⟨N',h1 rfl⟩
    ·cases h
  ·cases h
 ·cases h
end
theorem zgf (w:World) (o:Go.Obj) {k:Nat} (hk:k<w.heap.size):memOf (w.alloc o) k=memOf w k:=Go.heap_alloc_old w o hk
theorem zep (w:World) (o:Go.Obj):memOf (w.alloc o) w.heap.size=some o:=heap_alloc_new w o
theorem zG3 (w:World) (o:Go.Obj):(w.alloc o).heap.size=w.heap.size+1:=by simp
theorem SInv.world {m m':Mem} {N:Nat->Prop} {s:Sto} {hd:Nat->Value} {F:Nat->List Nat} {size size':Nat} (I:SInv m N s hd F size) (hsz:size<=size') (hm: ∀k,k<size->m' k=m k):SInv m' N s hd F size' where
 obj:=fun i=>ObjRep.goes (fun b hb=>⟨hb,hm b (I.ltN b hb)⟩) (Goes.refl s hd) (fun k hk=>hm k (I.ltF i k hk)) (I.obj i)
 once:=I.once
 nodup:=I.nodup
 sep:=I.sep
 ltF:=fun i k hk=>Nat.lt_of_lt_of_le (I.ltF i k hk) hsz
 ltN:=fun k hk=>Nat.lt_of_lt_of_le (I.ltN k hk) hsz
theorem zL0 {st:St} {e:Eff} {s:Sto} (h1: ∀i∈e.w,s i=e.s i) (h2: ∀i,i∉e.w->s i=st.o i) (d:Option Nat):(st.app d e).o=s:=by
 funext i;show (if e.w.contains i then e.s i else st.o i)=s i;by_cases h:i∈e.w
 ·rw [qb (by simpa using h),h1 i h]
 ·rw [qc (by simpa using h),h2 i h]
section
variable {E : Env} {O : Oracle E} {X : Ctx} {o : Oper} {st : St} {R : Type} {K : Eff -> Option R} {r : R}
structure Left (X:Ctx) (st:St) (e:Eff) (w:World) (N:Nat->Prop) (hd:Nat->Value) (F:Nat->List Nat) (u:Value) (w':World) (W:List Nat) (s':Sto) (N':Nat->Prop) (hd':Nat->Value) (F':Nat->List Nat):Prop where
 sw: ∀i∈e.w,s' i=e.s i
 so: ∀i,i∉e.w->s' i=st.o i
 mv:Moves w w' W
 own: ∀k∈W,∃i,k∈F i
 inv:SInv (memOf w') N' s' hd' F' w'.heap.size
 up: ∀k,N k->N' k
 goes:Goes st.o s' hd hd'
 new: ∀k,N' k->N k∨(∃i,k∈F i)∨w.heap.size<=k
 sub: ∀i k,k∈F' i->(∃j,k∈F j)∨w.heap.size<=k
 val:RepV (memOf w') N' s' hd' e.v u
theorem Left.inv' {e:Eff} {w:World} {N:Nat->Prop} {hd:Nat->Value} {F:Nat->List Nat} {u:Value} {w':World} {W:List Nat} {s':Sto} {N':Nat->Prop} {hd':Nat->Value} {F':Nat->List Nat} {a:Act} {d:Option Nat}
  (I:InvD X st a w N hd F) (hdst:dstOK X d) (L:Left X st e w N hd F u w' W s' N' hd' F'):Inv X (st.app d e) (a.put d u) w':=
 ⟨N',hd',F',I.put hdst (zL0 L.sw L.so d) L.inv (fun b hb=>⟨L.up b hb,L.mv.block b (I.s.ltN b hb) fun hW=>by
  obtain ⟨i,hi⟩:=L.own b hW;exact I.s.sep i b hi hb⟩) L.goes (I.fr.move L.mv L.own L.up L.new L.sub) L.val⟩
theorem Good.make {e:Eff} (h: ∀st':St,(∀x∈o.op.operands,st'.eval x=st.eval x)->(∀i,i∈e.w∨i∈e.r->st'.o i=st.o i)-> ∀a w N hd F,InvD X st' a w N hd F->
   ∃u w' W s' N' hd' F',(execOp a.eval o).run E.P w= .ok (.value u) w'∧Left X st' e w N hd F u w' W s' N' hd' F'):Good E X o st e:=by
 intro st' h1 h2 a w ⟨N,hd,F,I⟩ hdst K Q hK;obtain ⟨u,w',W,s',N',hd',F',hr,L⟩:=h st' h1 h2 a w N hd F I;exact zxz hr (hK _ _ (L.inv' I hdst))
theorem Good.write {e:Eff} (hv:e.v= .undef) (h: ∀st':St,(∀x∈o.op.operands,st'.eval x=st.eval x)->(∀i,i∈e.w∨i∈e.r->st'.o i=st.o i)-> ∀a w N hd F,InvD X st' a w N hd F->
   ∃w' W s' N' hd' F',(execOp a.eval o).run E.P w= .ok .skip w'∧Left X st' e w N hd F undef w' W s' N' hd' F'):Good E X o st e:=by
 intro st' h1 h2 a w ⟨N,hd,F,I⟩ hdst K Q hK;obtain ⟨w',W,s',N',hd',F',hr,L⟩:=h st' h1 h2 a w N hd F I;exact zJx hr (hK _ _ (L.inv' I hdst))
theorem zAA {e:Eff} {w:World} {N0:Nat->Prop} {hd:Nat->Value} {F0:Nat->List Nat} (I0:SInv (memOf w) N0 st.o hd F0 w.heap.size)
  {s:Sto} {N:Nat->Prop} {F:Nat->List Nat} (I:SInv (memOf w) N s hd F w.heap.size) (g:Goes st.o s hd hd) (hup: ∀k,N0 k->N k) (hnew: ∀k,N k->N0 k∨ ∃i,k∈F0 i) (hsub: ∀i k,k∈F i->k∈F0 i)
  {w1 w':World} {cells:Array Value} {T:TypeId} (hw1:Moves w w1 []) (hsz:w1.heap.size=w.heap.size) (hw':w'=w1.alloc (.cells cells T)) {id:Nat} {ob:Obj} {u:Value} {cc:C} {G:List Nat}
  (hG:G.Nodup) (hGl: ∀k∈G,k<w.heap.size+1∧ ¬N k∧ ∀i,k∉F i) (hGo: ∀k∈G,(∃i,k∈F0 i)∨w.heap.size<=k)
  (hob: ∀s' hd',Goes s s' hd hd'->hd' id=u->(∀k,N k->memOf w' k=memOf w k)->ObjRep (memOf w') N s' hd' ob u G)
  (hcc: ∀hd',hd' id=u->RepC (memOf w') N (s.set id ((s id).1+1,ob)) hd' cc u)
  (hev:e.v= .one cc) (hw: ∀i,i∈e.w->(s.set id ((s id).1+1,ob)) i=e.s i) (ho: ∀i,i∉e.w->(s.set id ((s id).1+1,ob)) i=st.o i):
  ∃s' N' hd' F',Left X st e w N0 hd F0 u w' [] s' N' hd' F':=by
 have hsz':w'.heap.size=w.heap.size+1:=by rw [hw',zG3,hsz]
 have hmem: ∀k,k<w.heap.size->memOf w' k=memOf w k:=by
  intro k hk;rw [hw',zgf w1 _ (by omega)];exact hw1.block k hk (by simp)
 have I1:SInv (memOf w') N s hd F w'.heap.size:=I.world (by omega) hmem;have hF:Fresh N F w'.heap.size G:=⟨hG,fun k hk=>by rw [hsz'];exact (hGl k hk).1,fun k hk=>(hGl k hk).2.1,fun k hk=>(hGl k hk).2.2⟩;have k:=zmX I1 id ((s id).1+1) ob u G hF (by omega) (fun s' hd' g h=>hob s' hd' g h (fun k hk=>hmem k (I.ltN k hk)));have hmv:Moves w w' []:=by rw [hw'];exact hw1.trans (Moves.alloc w1 _)
 refine ⟨_,N,_,_,hw,ho,hmv,by simp,k.inv,hup,g.trans k.goes,fun k hk=>?_,fun i k' hk=>?_,?_⟩
 ·rcases hnew k hk with h | h
  ·exact .inl h
  ·exact .inr (.inl h)
 ·rcases k.sub i k' hk with h | h
  ·exact .inl ⟨i,hsub i k' h⟩
  ·exact hGo k' h
 ·rw [hev];exact hcc _ (by simp)
theorem zii {P:Program} {t:TypeId} {cs:List C} (h:zeroCs P t=some cs): ∃i z,P.info? t=some i∧i.zero=some z∧constCs z.cells.toList=some cs∧ ∀w,(zeroValue t).run P w= .ok z w:=by
 unfold zeroCs at h;split at h
 ·rename_i z hz;obtain ⟨i,hi,hz'⟩:=qS.1 hz;exact ⟨i,z,hi,hz',h,fun w=>by simp [zeroValue,typeInfo,hi,hz']⟩
 ·cases h
theorem zv7 {v:Value} (h:v.oneCell'=true):v.cells= #[v]:=by cases v<;>first | rfl | (simp [Value.oneCell'] at h)
theorem zuQ {P:Program} {w:World} (t:TypeId) (v:Value):(newVar t v).run P w= .ok ⟨w.heap.size,0,none⟩ (w.alloc (.cells v.cells t)):=by
 simp [newVar,newRow]
theorem zAG {st':St} {w:World} {N:Nat->Prop} {hd:Nat->Value} {F:Nat->List Nat} (I:SInv (memOf w) N st'.o hd F w.heap.size) {cs:List C} {vs:List Value} (hcs:RepCs (memOf w) N st'.o hd cs vs) (t:TypeId) {id:Nat} {s0:Sto} (hid:st'.o id=s0 id):
  ∃s' N' hd' F',Left X st' {v:= .one (.bp id ((s0 id).1+1) 0),s:=s0.set id ((s0 id).1+1,.box cs),w:= [id]} w N hd F (.pointer (some ⟨w.heap.size,0,none⟩)) (w.alloc (.cells ⟨vs⟩ t)) [] s' N' hd' F':=by
 refine zAA (X:=X) (st:=st') (w:=w) I I (Goes.refl _ _) (fun _ h=>h) (fun _ h=> .inl h) (fun _ _ h=>h) (Moves.refl w) rfl (w':=w.alloc (.cells ⟨vs⟩ t)) rfl
  (id:=id) (ob:= .box cs) (u:= .pointer (some ⟨w.heap.size,0,none⟩)) (cc:= .bp id ((st'.o id).1+1) 0) (G:= [w.heap.size]) (by simp) ?_ (by simp)
  (fun s' hd' g e hN=>⟨w.heap.size,vs,t,rfl,by rw [zep],hcs.goes (fun b hb=>⟨hb,hN b hb⟩) g,rfl⟩)
  (fun hd' e=>⟨by simp [Sto.set_same],rfl,fun _ _=>⟨w.heap.size,e,rfl⟩⟩) (by rw [hid]) ?_ ?_
 ·intro k hk;simp at hk;subst hk;exact ⟨by omega,fun h=>Nat.lt_irrefl _ (I.ltN _ h),fun i h=>Nat.lt_irrefl _ (I.ltF i _ h)⟩
 ·intro i hi';simp at hi';subst hi';show _=(s0.set _ _) _;rw [Sto.set_same,Sto.set_same,hid]
 ·intro i hi';simp at hi';exact Sto.set_ne _ _ hi'
theorem zDm {m:Mem} {N:Nat->Prop} {s:Sto} {hd:Nat->Value} {F:Nat->List Nat} {size:Nat} (I:SInv m N s hd F size) {id v:Nat} {e:Ty} {xs:List e.den} (hs:s id=(v,.vec e xs)) {i off:Nat} {x:e.den} (hx:xs[i]?=some x) {σ:Ty} {ys:List σ.den} (hg:getAt e x off=some ⟨σ,ys⟩) {new nv:Nat} (hne:new≠id) (hnv:nv=(s new).1+1):
  ∃g cap c T v0 hd' F',hd id= .slice (some ⟨g,0,none⟩) (List.length xs) cap∧m g=some (.cells c T (0,0))∧c.toList[i*e.sz+off]?=some v0∧
   SInv m N ((s.set id (v,.hvec e xs i x off new nv)).set new (nv,.vec σ ys)) hd' F' size∧Goes s ((s.set id (v,.hvec e xs i x off new nv)).set new (nv,.vec σ ys)) hd hd'∧(∀j k,k∈F' j-> ∃j',k∈F j')∧
   RepC m N ((s.set id (v,.hvec e xs i x off new nv)).set new (nv,.vec σ ys)) hd' (.own new nv) v0:=by
 have hob:=I.obj id;rw [hs] at hob;obtain ⟨g,cap,c,T,v0,Fa,G,Fb,h1,h2,h3,h4,h5,h6⟩:=zHW hob hx hg;have hv:(s id).1=v:=by rw [hs]
 obtain ⟨o1,o2⟩:=zpB I id (.ovec e xs) (by rw [hs];exact fun _=>⟨rfl,rfl,ql _⟩) (by simp [Obj.isB]) (fun s'=>⟨rfl,RepT.own_len hob⟩);rw [hv] at o1 o2;have hnod:=I.nodup id;rw [h4] at hnod;have n1:=qN.1 hnod;have n2:=qN.1 n1.2.1;have hGF: ∀k∈G,k∈F id:=fun k hk=>by rw [h4];exact qB _ (qw _ hk)
 have hFF: ∀k∈Fa++Fb,k∈F id:=fun k hk=>by
  rw [h4];rcases qr.1 hk with hk | hk
  ·exact qw _ hk
  ·exact qB _ (qB _ hk)
 have hfr:Fresh N (fun j=>if j=id then [] else F j) size G:=⟨n2.1,fun k hk=>I.ltF id k (hGF k hk),fun k hk=>I.sep id k (hGF k hk),fun k hk j hj=>by
  by_cases ej:j=id
  ·simp [ej] at hj
  ·simp only [ej,qe] at hj;exact ej (I.once j id k hj (hGF k hk))⟩
 have hsn:(s.set id (v,.ovec e xs)) new=s new:=Sto.set_ne _ _ hne;have hone:=RepT.one' h5 v0 (by simp);have k1:=zmX o1 new nv (.vec σ ys) v0 G hfr (by rw [hsn];omega) (fun s' hd' g e=>h5);have hid1:((s.set id (v,.ovec e xs)).set new (nv,.vec σ ys)) id=(v,.ovec e xs):=by rw [Sto.set_ne _ _ (Ne.symm hne),Sto.set_same]
 have hset:((s.set id (v,.ovec e xs)).set new (nv,.vec σ ys)).set id (v,.hvec e xs i x off new nv)=(s.set id (v,.hvec e xs i x off new nv)).set new (nv,.vec σ ys):=by
  funext j;by_cases e1:j=id
  ·subst e1;rw [Sto.set_same,Sto.set_ne _ _ (Ne.symm hne),Sto.set_same]
  ·rw [Sto.set_ne _ _ e1];by_cases e2:j=new
   ·subst e2;rw [Sto.set_same,Sto.set_same]
   ·rw [Sto.set_ne _ _ e2,Sto.set_ne _ _ e2,Sto.set_ne _ _ e1,Sto.set_ne _ _ e1]
 have g2:Goes ((s.set id (v,.ovec e xs)).set new (nv,.vec σ ys)) (((s.set id (v,.ovec e xs)).set new (nv,.vec σ ys)).set id (v,.hvec e xs i x off new nv)) (fun j=>if j=new then v0 else hd j) (fun j=>if j=new then v0 else hd j):=by
  have:=Goes.set_like (s:=(s.set id (v,.ovec e xs)).set new (nv,.vec σ ys)) (hd:=fun j=>if j=new then v0 else hd j) id (.hvec e xs i x off new nv) (fun _=>by rw [hid1];exact ⟨rfl,rfl,ql _⟩) (by simp [Obj.isB])
  rwa [hid1] at this
 have I2:=k1.inv.upd (N':=N) (m':=m) (hd':=fun j=>if j=new then v0 else hd j) id (v,.hvec e xs i x off new nv) (Fa++Fb) (ql _) (fun b hb=>⟨hb,rfl⟩) (fun k hk=>⟨k1.inv.ltN k hk,fun j _ hj=>k1.inv.sep j k hj hk,fun hF=>I.sep id k (hFF k hF) hk⟩)
  (fun _ _ _ _=>rfl) (by
   rw [qN];exact ⟨n1.1,n2.2.1,fun a ha b hb=>n1.2.2 a ha b (qB _ hb)⟩) (fun k hk=>⟨I.ltF id k (hFF k hk),fun j hj hk'=>by
   by_cases e2:j=new
   ·simp only [e2,qf] at hk';rcases qr.1 hk with h | h
    ·exact n1.2.2 k h k (qw _ hk') rfl
    ·exact n2.2.2 k hk' k h rfl
   ·simp only [e2,hj,qe] at hk';exact hj (I.once j id k hk' (hFF k hk))⟩) g2 (fun _ _=>rfl) (by
   refine ⟨v0,Fa,Fb,hx,⟨?_,hone,fun _ _=>by simp⟩,rfl,⟨g,cap,by simp only [qc (Ne.symm hne)];exact h1⟩,by simp only [qc (Ne.symm hne)];exact h6⟩;rw [Sto.set_ne _ _ hne,Sto.set_same];exact ql _)
 rw [hset] at I2 g2;refine ⟨g,cap,c,T,v0,_,_,h1,h2,h3,I2,(o2.trans k1.goes).trans g2,fun j k hk=>?_,?_,hone,fun _ _=>by simp⟩
 ·by_cases e1:j=id
  ·simp only [e1,qf] at hk;exact ⟨id,hFF k hk⟩
  ·by_cases e2:j=new
   ·simp only [e2,qc hne,qf] at hk;exact ⟨id,hGF k hk⟩
   ·simp only [e1,e2,qe] at hk;exact ⟨j,hk⟩
 ·rw [Sto.set_same];exact ql _
theorem zK7 {m:Mem} {N:Nat->Prop} {s:Sto} {hd:Nat->Value} {F:Nat->List Nat} {size:Nat} (I:SInv m N s hd F size) {id v:Nat} {a:Ty} {xs:List (Ty.mv a).den} (hs:s id=(v,.vec (.mv a) xs)) {i:Nat} {ys:List a.den} (hx:xs[i]?=some (some (true,ys))) {new nv:Nat} (hne:new≠id) (hnv:nv=(s new).1+1):
  ∃g cap c T v0 hd' F',hd id= .slice (some ⟨g,0,none⟩) (List.length xs) cap∧m g=some (.cells c T (0,0))∧c.toList[i]?=some v0∧
   SInv m N ((s.set id (v,.vec (.mv a) (xs.set i none))).set new (nv,.vec a ys)) hd' F' size∧Goes s ((s.set id (v,.vec (.mv a) (xs.set i none))).set new (nv,.vec a ys)) hd hd'∧(∀j k,k∈F' j-> ∃j',k∈F j')∧
   RepC m N ((s.set id (v,.vec (.mv a) (xs.set i none))).set new (nv,.vec a ys)) hd' (.own new nv) v0:=by
 have hob:=I.obj id;rw [hs] at hob;obtain ⟨g,cap,c,T,v0,Fa,G,Fb,h1,h2,h3,h4,h5',h6⟩:=zKz hob hx;have h5:RepT m N (.own a) ys [v0] G:=h5';have hv:(s id).1=v:=by rw [hs]
 obtain ⟨o1,o2⟩:=zpB I id (.ovec (.mv a) xs) (by rw [hs];exact fun _=>⟨rfl,rfl,ql _⟩) (by simp [Obj.isB]) (fun s'=>⟨rfl,RepT.own_len hob⟩);rw [hv] at o1 o2;have hnod:=I.nodup id;rw [h4] at hnod;have n1:=qN.1 hnod;have n2:=qN.1 n1.2.1;have hGF: ∀k∈G,k∈F id:=fun k hk=>by rw [h4];exact qB _ (qw _ hk)
 have hFF: ∀k∈Fa++Fb,k∈F id:=fun k hk=>by
  rw [h4];rcases qr.1 hk with hk | hk
  ·exact qw _ hk
  ·exact qB _ (qB _ hk)
 have hfr:Fresh N (fun j=>if j=id then [] else F j) size G:=⟨n2.1,fun k hk=>I.ltF id k (hGF k hk),fun k hk=>I.sep id k (hGF k hk),fun k hk j hj=>by
  by_cases ej:j=id
  ·simp [ej] at hj
  ·simp only [ej,qe] at hj;exact ej (I.once j id k hj (hGF k hk))⟩
 have hsn:(s.set id (v,.ovec (.mv a) xs)) new=s new:=Sto.set_ne _ _ hne;have hone:=RepT.one' h5 v0 (by simp);have k1:=zmX o1 new nv (.vec a ys) v0 G hfr (by rw [hsn];omega) (fun s' hd' g e=>h5);have hid1:((s.set id (v,.ovec (.mv a) xs)).set new (nv,.vec a ys)) id=(v,.ovec (.mv a) xs):=by rw [Sto.set_ne _ _ (Ne.symm hne),Sto.set_same]
 have hset:((s.set id (v,.ovec (.mv a) xs)).set new (nv,.vec a ys)).set id (v,.vec (.mv a) (xs.set i none))=(s.set id (v,.vec (.mv a) (xs.set i none))).set new (nv,.vec a ys):=by
  funext j;by_cases e1:j=id
  ·subst e1;rw [Sto.set_same,Sto.set_ne _ _ (Ne.symm hne),Sto.set_same]
  ·rw [Sto.set_ne _ _ e1];by_cases e2:j=new
   ·subst e2;rw [Sto.set_same,Sto.set_same]
   ·rw [Sto.set_ne _ _ e2,Sto.set_ne _ _ e2,Sto.set_ne _ _ e1,Sto.set_ne _ _ e1]
 have g2:Goes ((s.set id (v,.ovec (.mv a) xs)).set new (nv,.vec a ys)) (((s.set id (v,.ovec (.mv a) xs)).set new (nv,.vec a ys)).set id (v,.vec (.mv a) (xs.set i none))) (fun j=>if j=new then v0 else hd j) (fun j=>if j=new then v0 else hd j):=by
  have:=Goes.set_like (s:=(s.set id (v,.ovec (.mv a) xs)).set new (nv,.vec a ys)) (hd:=fun j=>if j=new then v0 else hd j) id (.vec (.mv a) (xs.set i none)) (fun _=>by rw [hid1];exact ⟨rfl,rfl,by simp [Obj.vlen]⟩) (by simp [Obj.isB])
  rwa [hid1] at this
 have I2:=k1.inv.upd (N':=N) (m':=m) (hd':=fun j=>if j=new then v0 else hd j) id (v,.vec (.mv a) (xs.set i none)) (Fa++Fb) (ql _) (fun b hb=>⟨hb,rfl⟩) (fun k hk=>⟨k1.inv.ltN k hk,fun j _ hj=>k1.inv.sep j k hj hk,fun hF=>I.sep id k (hFF k hF) hk⟩)
  (fun _ _ _ _=>rfl) (by
   rw [qN];exact ⟨n1.1,n2.2.1,fun a ha b hb=>n1.2.2 a ha b (qB _ hb)⟩) (fun k hk=>⟨I.ltF id k (hFF k hk),fun j hj hk'=>by
   by_cases e2:j=new
   ·simp only [e2,qf] at hk';rcases qr.1 hk with h | h
    ·exact n1.2.2 k h k (qw _ hk') rfl
    ·exact n2.2.2 k hk' k h rfl
   ·simp only [e2,hj,qe] at hk';exact hj (I.once j id k hk' (hFF k hk))⟩) g2 (fun _ _=>rfl) (by
   show RepT m N (.own (.mv a)) (xs.set i none) [if id=new then v0 else hd id] (Fa++Fb);rw [qc (Ne.symm hne)];exact h6)
 rw [hset] at I2 g2;refine ⟨g,cap,c,T,v0,_,_,h1,h2,h3,I2,(o2.trans k1.goes).trans g2,fun j k hk=>?_,?_,hone,fun _ _=>by simp⟩
 ·by_cases e1:j=id
  ·simp only [e1,qf] at hk;exact ⟨id,hFF k hk⟩
  ·by_cases e2:j=new
   ·simp only [e2,qc hne,qf] at hk;exact ⟨id,hGF k hk⟩
   ·simp only [e1,e2,qe] at hk;exact ⟨j,hk⟩
 ·rw [Sto.set_same];exact ql _
theorem zGS {α:Type} {xs:List (Option (Bool×List α))} {i:Nat} {ys:List α} (h:takeO xs i=some ys):xs[i]?=some (some (true,ys)):=by
 unfold takeO at h;split at h
 ·rename_i hx;obtain rfl:=qh h;exact hx
 ·cases h
theorem zHA {α:Type} {xs:List (Option (Bool×List α))} {i:Nat} {ys:List α} (h:seeO xs i=some ys):xs[i]?=some (some (false,ys)):=by
 unfold seeO at h;split at h
 ·rename_i hx;obtain rfl:=qh h;exact hx
 ·cases h
theorem zKV {t:TypeId} {x:Operand} (ho:o.op= .load t x) {p:Nat×Nat×Nat×Sigma fun a:Ty=>List (Ty.mv a).den} (hm:mvEp (st.eval x) st.o=some p) (h:exOp E O o st K=some r): ∃e,K e=some r∧Good E X o st e:=by
 have hx:x∈o.op.operands:=by rw [ho];simp [Op.operands]
 obtain ⟨id,v,i,a,xs⟩:=p
 obtain ⟨hc,hs⟩:st.eval x= .one (.ep id v i 0)∧st.o id=(v,.vec (.mv a) xs):=by
  unfold mvEp at hm;split at hm
  ·rename_i id' ver' i' off' he;split at hm
   ·rename_i v' a' xs' hs';split at hm
    ·rename_i hv;obtain ⟨rfl,rfl⟩:=hv;simp only [qI,qU,Sigma.mk.injEq] at hm;obtain ⟨rfl,rfl,rfl,rfl,hxs⟩:=hm;cases hxs;exact ⟨he,hs'⟩
    ·cases hm
   ·cases hm
  ·cases hm
 simp only [exOp,ho,hm] at h;split at h
 ·rename_i hif;obtain ⟨hok,hag,hsz⟩:=hif
  have addr: ∀ {st':St} {b:Act} {w:World} {N:Nat->Prop} {hd:Nat->Value} {F:Nat->List Nat},InvD X st' b w N hd F->st'.eval x=st.eval x->st'.o id=st.o id-> ∀ {g cap:Nat},hd id= .slice (some ⟨g,0,none⟩) (List.length xs) cap->b.eval x= .pointer (some ⟨g,i,none⟩):=by
   intro st' b w N hd F I he hid g cap hg;have hu:=I.eval x;rw [he,hc] at hu;rw [hs] at hid;obtain ⟨g',len,cap',e1,e2⟩:=hu.2.2 (by rw [hid]) (by rw [hid];rfl);rw [hid] at e2;rw [hg] at e1;injection e1 with e1 _ _;injection e1 with e1;injection e1 with e1
   subst e1;have e2':b.eval x= .pointer (some ⟨g,i*1+0,none⟩):=e2;simpa using e2'
  split at h
  ·obtain ⟨ys,hy,h⟩:=qS.1 h;have hxs:=zGS hy;split at h
   ·rename_i hn;refine ⟨_,h,Good.make fun st' he hi b w N hd F I=>?_⟩;have hid:=hi id (.inl (by simp));have hnew:=hi (newId o.dst) (.inl (by simp));have hid0:=hid;rw [hs] at hid;obtain ⟨g,cap,cc,T,v0,hd',F',k1,k2,k3,k4,k5,k6,k7⟩:=zK7 I.s hid hxs hn (nv:=(st.o (newId o.dst)).1+1) (by rw [hnew]);have e2':=addr I (he x hx) hid0 k1
    have hcell:cellsIn (memOf w) g i [v0]:=⟨cc,T,(0,0),k2,fun j u hj=>by
     cases j with
     | zero=>simp at hj;subst hj;simpa using k3
     | succ j=>simp at hj⟩
    obtain ⟨u,hr,hu'⟩:=zm7 hcell hok (by rw [hsz];rfl) (fun _=>hsz);rw [hag,hsz] at hu';have hu2:u=v0:=by simpa using hu'.symm
    subst hu2;refine ⟨u,w,[],_,N,hd',F',by simp [execOp,ho,Instr.loadAt,e2',Instr.sureAddr,hr],⟨fun j hj=>?_,fun j hj=>?_,Moves.refl w,by simp,k4,fun _ h=>h,k5,fun _ h=> .inl h,fun j k hk=> .inl (k6 j k hk),k7⟩⟩
    ·simp only [qz,List.not_mem_nil,or_false] at hj;show _=(Sto.set (Sto.set _ _ _) _ _) j;by_cases e5:j=newId o.dst
     ·subst e5;rw [Sto.set_same,Sto.set_same]
     ·rw [Sto.set_ne _ _ e5,Sto.set_ne _ _ e5];rcases hj with h | h
      ·rw [h,Sto.set_same,Sto.set_same]
      ·exact absurd h e5
    ·have q1:j≠id:=fun h=>hj (by simp [h])
     have q2:j≠newId o.dst:=fun h=>hj (by simp [h])
     rw [Sto.set_ne _ _ q2,Sto.set_ne _ _ q1]
   ·cases h
  ·split at h
   ·obtain ⟨ys,hy,h⟩:=qS.1 h;have hxs:=zHA hy;refine ⟨_,h,Good.val fun st' he hi b w N hd F I=>?_⟩;have hid:=hi id (by simp);have hid0:=hid;rw [hs] at hid;have hob:=I.s.obj id;rw [hid] at hob;obtain ⟨g,cap,cc,T,v0,Fa,G,Fb,k1,k2,k3,k4,k5,k6⟩:=zKz hob hxs;have e2':=addr I (he x hx) hid0 k1
    have hcell:cellsIn (memOf w) g i [v0]:=⟨cc,T,(0,0),k2,fun j u hj=>by
     cases j with
     | zero=>simp at hj;subst hj;simpa using k3
     | succ j=>simp at hj⟩
    obtain ⟨u,hr,hu'⟩:=zm7 hcell hok (by rw [hsz];rfl) (fun _=>hsz);rw [hag,hsz] at hu';have hu2:u=v0:=by simpa using hu'.symm
    subst hu2;have hG:G= []:=k5.1;subst hG;exact ⟨u,by simp [execOp,ho,Instr.loadAt,e2',Instr.sureAddr,hr],k5⟩
   ·cases h
 ·cases h
theorem zFX {t:TypeId} {x:Operand} (ho:o.op= .load t x) (hmv:mvEp (st.eval x) st.o=none) (hb:E.borrow (o.dst.getD 0) t=true∧deepEp (st.eval x) st.o=true) (h:exOp E O o st K=some r): ∃e,K e=some r∧Good E X o st e:=by
 have hx:x∈o.op.operands:=by rw [ho];simp [Op.operands]
 simp only [exOp,ho,hmv] at h;rw [qb hb] at h;obtain ⟨c,hc,h⟩:=zax h;split at h
 ·rename_i id ver i off;split at h
  ·rename_i hif;obtain ⟨hok,hag,hsz⟩:=hif;split at h
   ·rename_i v e xs hs;split at h
    ·rename_i hv;subst hv;unfold borrowK at h;split at h
     ·rename_i y hy;split at h
      ·rename_i σ ys hg;split at h
       ·rename_i hn;refine ⟨_,h,Good.make fun st' he hi a w N hd F I=>?_⟩;have hid:=hi id (.inl (by simp));rw [hs] at hid;have hnew:=hi (newId o.dst) (.inl (by simp));have hu:=I.eval x;rw [he x hx,hc] at hu;obtain ⟨g',len,cap',e1,e2⟩:=hu.2.2 (by rw [hid]) (by rw [hid];rfl);rw [hid] at e2;obtain ⟨g,cap,cc,T,v0,hd',F',k1,k2,k3,k4,k5,k6,k7⟩:=zDm I.s hid hy hg hn.1 (nv:=(st.o (newId o.dst)).1+1) (by rw [hnew]);rw [k1] at e1;injection e1 with e1 _ _;injection e1 with e1;injection e1 with e1
        subst e1;have e2':a.eval x= .pointer (some ⟨g,i*e.sz+off,none⟩):=e2
        have hcell:cellsIn (memOf w) g (i*e.sz+off) [v0]:=⟨cc,T,(0,0),k2,fun j u hj=>by
         cases j with
         | zero=>simp at hj;subst hj;simpa using k3
         | succ j=>simp at hj⟩
        obtain ⟨u,hr,hu'⟩:=zm7 hcell hok (by rw [hsz];rfl) (fun _=>hsz);rw [hag,hsz] at hu';have hu2:u=v0:=by simpa using hu'.symm
        subst hu2;refine ⟨u,w,[],_,N,hd',F',by simp [execOp,ho,Instr.loadAt,e2',Instr.sureAddr,hr],⟨fun j hj=>?_,fun j hj=>?_,Moves.refl w,by simp,k4,fun _ h=>h,k5,fun _ h=> .inl h,fun j k hk=> .inl (k6 j k hk),k7⟩⟩
        ·simp only [qz,List.not_mem_nil,or_false] at hj;show _=(Sto.set (Sto.set _ _ _) _ _) j;by_cases e5:j=newId o.dst
         ·subst e5;rw [Sto.set_same,Sto.set_same]
         ·rw [Sto.set_ne _ _ e5,Sto.set_ne _ _ e5];rcases hj with h | h
          ·rw [h,Sto.set_same,Sto.set_same]
          ·exact absurd h e5
        ·have q1:j≠id:=fun h=>hj (by simp [h])
         have q2:j≠newId o.dst:=fun h=>hj (by simp [h])
         rw [Sto.set_ne _ _ q2,Sto.set_ne _ _ q1]
       ·cases h
      ·cases h
     ·cases h
    ·cases h
   ·rename_i v e xs i' y0 off' id' ver' hs;split at h
    ·rename_i hv;obtain ⟨rfl,hne⟩:=hv;split at h
     ·rename_i zs s1 hf;unfold borrowK at h;split at h
      ·rename_i y hy;split at h
       ·rename_i σ ys hg;split at h
        ·rename_i hn
         have hn2:newId o.dst≠id':=by
          have:=hn.2;simp at this;exact fun h=>this (by rw [h])
         refine ⟨_,h,Good.make fun st' he hi a w N hd F I=>?_⟩;have hid:=hi id (.inl (by simp));rw [hs] at hid;have hid':=hi id' (.inl (by simp));have hnew:=hi (newId o.dst) (.inl (by simp));have hu:=I.eval x;rw [he x hx,hc] at hu;obtain ⟨g',len,cap',e1,e2⟩:=hu.2.2 (by rw [hid]) (by rw [hid];rfl);rw [hid] at e2;obtain ⟨s2,f1,f2,f3⟩:=zAk hf hid';obtain ⟨⟨Fa,Fb,hF,hrep⟩,hlen,J,g1,hvv,hid2,g0,cap0,hh⟩:=zCz I.s hid hne f1;have hidx:s2 id=(v,.hvec e xs i' y0 off' id' ver'):=by rw [hid2,hid]
         have hFid:(fun j=>if j=id' then [] else F j) id=F id:=by simp only [qc (Ne.symm hne)]
         have gw:Goes s2 (s2.set id (v,.vec e zs)) hd hd:=by
          have:=Goes.set_like (s:=s2) (hd:=hd) id (.vec e zs) (fun _=>by rw [hidx];exact ⟨rfl,rfl,by show List.length xs<=List.length zs;omega⟩) (by simp [Obj.isB])
          rwa [hidx] at this
         have hnd1:=I.s.nodup id;rw [hF] at hnd1;have n1:=qN.1 hnd1
         have hmem: ∀k,k∈Fa++(F id'++Fb)->k∈F id∨k∈F id':=by
          intro k hk;rcases qr.1 hk with hk | hk
          ·exact .inl (by rw [hF];exact qw _ hk)
          ·rcases qr.1 hk with hk | hk
           ·exact .inr hk
           ·exact .inl (by rw [hF];exact qB _ hk)
         have J2:=J.upd (N':=N) (m':=memOf w) (hd':=hd) id (v,.vec e zs) (Fa++(F id'++Fb)) (ql _) (fun b hb=>⟨hb,rfl⟩) (fun k hk=>⟨I.s.ltN k hk,fun j _ hj=>J.sep j k hj hk,fun h=>by
           rcases hmem k h with h | h
           ·exact I.s.sep id k h hk
           ·exact I.s.sep id' k h hk⟩) (fun _ _ _ _=>rfl) (by
           rw [qN];refine ⟨n1.1,?_,fun p hp q hq epq=>?_⟩
           ·rw [qN];refine ⟨I.s.nodup id',n1.2.1,fun p hp q hq epq=>?_⟩;subst epq;exact hne (I.s.once id' id p hp (by rw [hF];exact qB _ hq))
           ·subst epq;rcases qr.1 hq with hq | hq
            ·exact hne (I.s.once id' id p hq (by rw [hF];exact qw _ hp))
            ·exact n1.2.2 p hp p hq rfl) (fun k hk=>⟨by
           rcases hmem k hk with h | h
           ·exact I.s.ltF id k h
           ·exact I.s.ltF id' k h,fun j hj hk'=>by
           by_cases e4:j=id'
           ·simp [e4] at hk'
           ·simp only [e4,qe] at hk';rcases hmem k hk with h | h
            ·exact hj (I.s.once j id k hk' h)
            ·exact e4 (I.s.once j id' k hk' h)⟩) gw (fun _ _=>rfl) hrep
         have hs3:(s2.set id (v,.vec e zs)) id=(v,.vec e zs):=Sto.set_same _ _ _;have hnv:((s2.set id (v,.vec e zs)) (newId o.dst))=st.o (newId o.dst):=by rw [Sto.set_ne _ _ hn.1,f3 _ hn2,hnew]
         have hnv1:(s1 (newId o.dst))=st.o (newId o.dst):=zor hf _ hn2;obtain ⟨g,cap,cc,T,v0,hd',F',k1,k2,k3,k4,k5,k6,k7⟩:=zDm J2 hs3 hy hg hn.1 (nv:=(s1 (newId o.dst)).1+1) (by rw [hnv,hnv1])
         have hset:((s2.set id (v,.vec e zs)).set id (v,.hvec e zs i y off (newId o.dst) ((s1 (newId o.dst)).1+1)))=s2.set id (v,.hvec e zs i y off (newId o.dst) ((s1 (newId o.dst)).1+1)):=by
          funext j;by_cases e4:j=id
          ·subst e4;rw [Sto.set_same,Sto.set_same]
          ·rw [Sto.set_ne _ _ e4,Sto.set_ne _ _ e4,Sto.set_ne _ _ e4]
         rw [hset] at k4 k5 k7;rw [k1] at e1;injection e1 with e1 _ _;injection e1 with e1;injection e1 with e1
         subst e1;have e2':a.eval x= .pointer (some ⟨g,i*e.sz+off,none⟩):=e2
         have hcell:cellsIn (memOf w) g (i*e.sz+off) [v0]:=⟨cc,T,(0,0),k2,fun j u hj=>by
          cases j with
          | zero=>simp at hj;subst hj;simpa using k3
          | succ j=>simp at hj⟩
         obtain ⟨u,hr,hu'⟩:=zm7 hcell hok (by rw [hsz];rfl) (fun _=>hsz);rw [hag,hsz] at hu';have hu2:u=v0:=by simpa using hu'.symm
         subst hu2;refine ⟨u,w,[],_,N,hd',F',by simp [execOp,ho,Instr.loadAt,e2',Instr.sureAddr,hr],⟨fun j hj=>?_,fun j hj=>?_,Moves.refl w,by simp,k4,fun _ h=>h,(g1.trans gw).trans k5,fun _ h=> .inl h,fun j k hk=>?_,k7⟩⟩
         ·simp only [qz,List.not_mem_nil,or_false] at hj;show _=(Sto.set (Sto.set _ _ _) _ _) j;by_cases e5:j=newId o.dst
          ·subst e5;rw [Sto.set_same,Sto.set_same]
          ·rw [Sto.set_ne _ _ e5,Sto.set_ne _ _ e5];by_cases e6:j=id
           ·subst e6;rw [Sto.set_same,Sto.set_same]
           ·rw [Sto.set_ne _ _ e6,Sto.set_ne _ _ e6];rcases hj with h | h | h
            ·exact absurd h e6
            ·exact absurd h e5
            ·rw [h];exact f2
         ·have q1:j≠id:=fun h=>hj (by simp [h])
          have q2:j≠newId o.dst:=fun h=>hj (by simp [h])
          have q3:j≠id':=fun h=>hj (by simp [h])
          rw [Sto.set_ne _ _ q2,Sto.set_ne _ _ q1,f3 j q3]
         ·obtain ⟨j',hj'⟩:=k6 j k hk;by_cases e7:j'=id
          ·simp only [e7,qf] at hj';rcases hmem k hj' with h | h
           ·exact .inl ⟨id,h⟩
           ·exact .inl ⟨id',h⟩
          ·simp only [e7,qe] at hj';by_cases e8:j'=id'
           ·simp [e8] at hj'
           ·simp only [e8,qe] at hj';exact .inl ⟨j',hj'⟩
        ·cases h
       ·cases h
      ·cases h
     ·cases h
    ·cases h
   ·cases h
  ·cases h
 ·cases h
theorem zIN {t:TypeId} {x:Operand} (ho:o.op= .load t x) (h:exOp E O o st K=some r): ∃e,K e=some r∧Good E X o st e:=by
 cases hm:mvEp (st.eval x) st.o with
 | some p=>exact zKV ho hm h
 | none=>
  by_cases hb:E.borrow (o.dst.getD 0) t=true∧deepEp (st.eval x) st.o=true
  ·exact zFX ho hm hb h
  ·exact zGs ho hm hb h
theorem zJ8 {v:Option Value} (h:isSbZ v=true):v=some (.agg #[.pointer none,.slice none 0 0]):=by
 unfold isSbZ at h;split at h
 ·rfl
 ·cases h
theorem zGG {t:TypeId} (ho:o.op= .alloc t) (h:exOp E O o st K=some r): ∃e,K e=some r∧Good E X o st e:=by
 simp only [exOp,ho] at h;split at h
 ·rename_i cs hz;split at h
  ·rename_i te hsb;split at h
   ·rename_i hzb;refine ⟨_,h,Good.make fun st' hx hi a w N hd F I=>?_⟩;obtain ⟨i,z,h1,h2,h3,h4⟩:=zii hz
    have hz2:z= .agg #[.pointer none,.slice none 0 0]:=by
     have:=zJ8 hzb;rw [h1] at this;simpa [h2] using this
    subst hz2;have hid:st'.o (newId o.dst)=st.o (newId o.dst):=hi _ (.inl (by simp));have hmem: ∀k,k<w.heap.size->memOf (w.alloc (.cells #[.pointer none,.slice none 0 0] t)) k=memOf w k:=fun k hk=>zgf w _ hk
    have I1:SInv (memOf (w.alloc (.cells #[.pointer none,.slice none 0 0] t))) N st'.o hd F (w.alloc (.cells #[.pointer none,.slice none 0 0] t)).heap.size:=I.s.world (by simp) hmem
    have hF:Fresh N F (w.alloc (.cells #[.pointer none,.slice none 0 0] t)).heap.size [w.heap.size]:=⟨by simp,by simp,by intro k hk;simp at hk;subst hk;exact fun h=>Nat.lt_irrefl _ (I.s.ltN _ h),by
     intro k hk i hk';simp at hk;subst hk;exact Nat.lt_irrefl _ (I.s.ltF i _ hk')⟩
    have k:=zmX I1 (newId o.dst) ((st.o (newId o.dst)).1+1) (.sbo t te []) (.pointer (some ⟨w.heap.size,0,none⟩)) [w.heap.size] hF (by rw [hid];omega) (fun s' hd' _ _=>
     ⟨w.heap.size,.pointer none,.slice none 0 0,[],rfl,zep w _,.inl rfl,rfl,.inl ⟨rfl,rfl,rfl⟩⟩)
    refine ⟨.pointer (some ⟨w.heap.size,0,none⟩),w.alloc (.cells #[.pointer none,.slice none 0 0] t),[],_,N,_,_,by simp [execOp,ho,Instr.alloc,h4,zuQ,Value.cells],⟨fun i hi'=>?_,fun i hi'=>?_,Moves.alloc w _,by simp,k.inv,fun _ h=>h,k.goes,fun _ h=> .inl h,fun i k' hk=>?_,?_⟩⟩
    ·simp at hi';subst hi';show _=(st.o.set _ _) _;rw [Sto.set_same,Sto.set_same]
    ·simp at hi';exact Sto.set_ne _ _ hi'
    ·rcases k.sub i k' hk with h | h
     ·exact .inl ⟨i,h⟩
     ·simp at h;subst h;exact .inr (ql _)
    ·exact ⟨by simp [Sto.set_same],rfl,fun _ _=>by simp⟩
   ·cases h
  ·refine ⟨_,h,Good.make fun st' hx hi a w N hd F I=>?_⟩;obtain ⟨i,z,h1,h2,h3,h4⟩:=zii hz;have hid:st'.o (newId o.dst)=st.o (newId o.dst):=hi _ (.inl (by simp));obtain ⟨s',N',hd',F',L⟩:=zAG (X:=X) I.s (cs:=cs) (vs:=z.cells.toList) (zjj h3) t hid;exact ⟨_,_,[],s',N',hd',F',by simp [execOp,ho,Instr.alloc,h4,zuQ],L⟩
 ·cases h
theorem zJb {t:TypeId} {x:Operand} (ho:o.op= .box t x) (h:exOp E O o st K=some r): ∃e,K e=some r∧Good E X o st e:=by
 have hx:x∈o.op.operands:=by rw [ho];simp [Op.operands]
 simp only [exOp,ho] at h;split at h
 ·rename_i c hc;refine ⟨_,h,Good.make fun st' he hi a w N hd F I=>?_⟩;have hv:=I.eval x;rw [he x hx,hc] at hv;have hid:st'.o (newId o.dst)=st.o (newId o.dst):=hi _ (.inl (by simp));have h1:=RepC.one' hv;obtain ⟨s',N',hd',F',L⟩:=zAG (X:=X) I.s (cs:= [c]) (vs:= [a.eval x]) ⟨hv,trivial⟩ t hid;exact ⟨_,_,[],s',N',hd',F',by simp [execOp,ho,Instr.box,zuQ,zv7 h1],L⟩
 ·rename_i cs hc;refine ⟨_,h,Good.make fun st' he hi a w N hd F I=>?_⟩;have hv:=I.eval x;rw [he x hx,hc] at hv;have hid:st'.o (newId o.dst)=st.o (newId o.dst):=hi _ (.inl (by simp));obtain ⟨vs,e1,h1⟩:=hv;obtain ⟨s',N',hd',F',L⟩:=zAG (X:=X) I.s (cs:=cs) (vs:=vs) h1 t hid;exact ⟨_,_,[],s',N',hd',F',by simp [execOp,ho,Instr.box,zuQ,e1,Value.cells],L⟩
 ·cases h
theorem zEI (off:Nat): ∀(vs:List Value) (n:Nat) (cs:List Value),off+n+vs.length<=cs.length->
  (vs.zipIdx n).foldl (fun (cs:Array Value) (p:Value×Nat)=>cs.setIfInBounds (off+p.2) p.1) ⟨cs⟩=⟨cs.take (off+n)++vs++cs.drop (off+n+vs.length)⟩
 | [],n,cs,_=>by simp
 | v::vs,n,cs,h=>by
  have hl:off+(n+1)+vs.length<=(cs.set (off+n) v).length:=by simp at h ⊢; omega
  have ih:=zEI off vs (n+1) (cs.set (off+n) v) hl;have hs:=list_seg_step cs (off+n) v vs (by simp at h;omega);simp only [List.zipIdx_cons,List.foldl_cons,List.setIfInBounds_toArray];rw [ih];congr 1
theorem zDn (place:Nat->Option (Nat×Nat)) {i off:Nat} {v:Value} {vs cs:List Value} {rest:List (Nat×Value)} (hp:place i=some (off,vs.length)) (hv:v.cells=⟨vs⟩) (hl:off+vs.length<=cs.length):
  Instr.fill place ⟨cs⟩ ((i,v)::rest)=Instr.fill place ⟨cs.take off++vs++cs.drop (off+vs.length)⟩ rest:=by
 have h:=zEI off vs 0 cs (by omega)
 have h2:v.cells.zipIdx.foldl (fun (cs:Array Value) (p:Value×Nat)=>cs.setIfInBounds (off+p.2) p.1) ⟨cs⟩=(vs.zipIdx 0).foldl (fun (cs:Array Value) (p:Value×Nat)=>cs.setIfInBounds (off+p.2) p.1) ⟨cs⟩:=by
  rw [hv];simp
 rw [Instr.fill,hp];simp only [hv]
 have h3: ¬((decide ((⟨vs⟩:Array Value).size≠vs.length) || decide (off+(⟨vs⟩:Array Value).size>(⟨cs⟩:Array Value).size))=true):=by
  simp;omega
 rw [qc h3];rw [hv] at h2;simp only [Nat.add_zero] at h;rw [<-h,<-h2]
theorem RepV.cells {m:Mem} {N:Nat->Prop} {s:Sto} {hd:Nat->Value} {v:V} {u:Value} (h:RepV m N s hd v u) (hne:v.cells≠ []): ∃us,u.cells=⟨us⟩∧RepCs m N s hd v.cells us:=by
 cases v with
 | one c=>exact ⟨[u],zv7 (RepC.one' h),h,trivial⟩
 | agg cs=>
  obtain ⟨vs,rfl,h1⟩:=h
  exact ⟨vs,rfl,h1⟩
 | _=>exact absurd rfl hne
theorem RepCs.setCs {m:Mem} {N:Nat->Prop} {s:Sto} {hd:Nat->Value} {cs vs:List C} {us ws:List Value} (h:RepCs m N s hd cs us) (h':RepCs m N s hd vs ws) (off:Nat):RepCs m N s hd (setCs cs off vs) (us.take off++ws++us.drop (off+ws.length)):=by
 unfold Ev.setCs;rw [h'.len];exact (h.take.append h').append h.drop
theorem zDh {P:Program} {fs:List Field} {places:List (Nat×Nat)} (hpl: ∀(i:Nat) (f:Field),fs[i]?=some f->places[i]?=some (f.offset,szP P f.type)) {m:Mem} {N:Nat->Prop} {s:Sto} {hd:Nat->Value} {st:St} {a:Act}:
  ∀(parts:List (Nat×Operand)) (cs ds:List C) (us:List Value),(∀p∈parts,RepV m N s hd (st.eval p.2) (a.eval p.2))->fillCs P fs (parts.map fun p=>(p.1,st.eval p.2)) cs=some ds->RepCs m N s hd cs us->
   ∃ws,Instr.fill (fun i=>places[i]?) ⟨us⟩ (parts.map fun p=>(p.1,a.eval p.2))=some ⟨ws⟩∧RepCs m N s hd ds ws
 | [],cs,ds,us,_,h,hr=>by
  obtain rfl:=qh h
  exact ⟨us,rfl,hr⟩
 | (i,x)::parts,cs,ds,us,hv,h,hr=>by
  simp only [qK,fillCs] at h ⊢;split at h
  ·rename_i f hf;split at h
   ·rename_i hc;obtain ⟨vs,e1,h1⟩:=RepV.cells (hv (i,x) (by simp)) (fun h0=>hc.2.2 (by rw [h0];rfl));have hlen:=h1.len;have hl2:=hr.len;rw [zDn (fun i=>places[i]?) (vs:=vs) (by rw [hpl i f hf,hlen,hc.1]) e1 (by have:=hc.1;have:=hc.2.1;simp only at hlen this;omega)];exact zDh hpl parts _ ds _ (fun p hp=>hv p (qn _ hp)) h (RepCs.setCs hr h1 f.offset)
   ·cases h
  ·cases h
theorem zAj {P:Program}: ∀(fs:List Field),(fs.all fun f=>(P.info? f.type).isSome)=true-> ∃places,fs.mapM (fun f=>(P.info? f.type).map fun i=>(f.offset,i.size))=some places∧ ∀(i:Nat) (f:Field),fs[i]?=some f->places[i]?=some (f.offset,szP P f.type)
 | [],_=>⟨[],by simp,by simp⟩
 | f::fs,h=>by
  simp only [qR,qq] at h;obtain ⟨i,hi⟩:=Option.isSome_iff_exists.1 h.1;obtain ⟨pl,h1,h2⟩:=zAj fs h.2;refine ⟨(f.offset,i.size)::pl,by simp [List.mapM_cons,hi,h1],fun j g hg=>?_⟩
  cases j with
  | zero=>simp at hg;subst hg;simp [szP,hi]
  | succ j=>simp at hg ⊢; exact h2 j g hg
theorem zGK {t:TypeId} {parts:Array (Nat×Operand)} (ho:o.op= .build t parts) (h:exOp E O o st K=some r): ∃e,K e=some r∧Good E X o st e:=by
 have hx: ∀p∈parts.toList,p.2∈o.op.operands:=by
  intro p hp;rw [ho];simp [Op.operands];exact ⟨p.1,by simpa using hp⟩
 simp only [exOp,ho] at h;split at h
 ·rename_i n te harr;have hu:=zDg harr;split at h
  ·rename_i cs hz hparts;split at h
   ·rename_i hs0;refine ⟨_,h,Good.val fun st' he hm a w N hd' F I=>?_⟩;obtain ⟨it,z,h1,h2,h3,h4⟩:=zii hz;have hp:parts= #[]:=by rw [<-Array.toArray_toList (xs:=parts),hparts]
    have hsz:=zms (P:=E.P) (t:=te) hs0 w;refine ⟨.agg z.cells,?_,z.cells.toList,rfl,zjj h3⟩;simp [execOp,ho,hp,Instr.build,h4 w,run_underlying hu,hsz,Instr.fill]
   ·cases h
  ·cases h
 split at h
 ·rename_i cs hz;split at h
  ·rename_i hb;split at h
   ·rename_i ds hf;refine ⟨_,h,Good.val fun st' he hm a w N hd' F I=>?_⟩;obtain ⟨it,z,h1,h2,h3,h4⟩:=zii hz;unfold buildable at hb;split at hb
    ·rename_i fs hu;obtain ⟨pl,hp1,hp2⟩:=zAj fs.toList hb;have hfs:fieldsP E.P t=fs.toList:=by simp [fieldsP,hu]
     rw [hfs] at hf
     have hmap:(parts.toList.map fun p=>(p.1,st.eval p.2))=(parts.toList.map fun p=>(p.1,st'.eval p.2)):=by
      apply List.map_congr_left;intro p hp;rw [he p.2 (hx p hp)]
     rw [hmap] at hf;obtain ⟨ws,hw1,hw2⟩:=zDh (P:=E.P) (st:=st') (a:=a) hp2 parts.toList cs ds z.cells.toList (fun p _=>I.eval p.2) hf (zjj h3);refine ⟨.agg ⟨ws⟩,?_,ws,rfl,hw2⟩
     have hb:E.P.built t (parts.map fun (i,x)=>(i,a.eval x)).toList=some ⟨ws⟩:=by
      simp only [Program.built,h1,hu,h2,hp1];simpa using hw1
     have:=run_build (P:=E.P) w t (parts.map fun (i,x)=>(i,a.eval x)) ⟨ws⟩ hb;simp [execOp,ho,this]
    ·cases hb
   ·cases h
  ·cases h
 ·cases h
end
structure ElsOK (m:Mem) (N:Nat->Prop) (s:Sto) (hd:Nat->Value) (F:Nat->List Nat) (size:Nat) (m0:List Nat) (e:Ty) (xs:List e.den) (s':Sto) (m1:List Nat) (vss:List (List Value)) (N':Nat->Prop) (F':Nat->List Nat) (Fs:List (List Nat)):Prop where
 len:vss.length=xs.length
 lenF:Fs.length=xs.length
 rep: ∀(i:Nat) (h:i<xs.length) (h':i<vss.length) (h'':i<Fs.length),RepT m N' e xs[i] vss[i] Fs[i]
 inv:SInv m N' s' hd F' size
 goes:Goes s s' hd hd
 vers: ∀i,(s' i).1=(s i).1
 up: ∀k,N k->N' k
 new: ∀k,N' k->N k∨ ∃i,k∈F i
 sub: ∀i k,k∈F' i->k∈F i
 nod:Fs.flatten.Nodup
 own: ∀k∈Fs.flatten,(∃i,k∈F i)∧ ¬N' k∧ ∀i,k∉F' i
 acc: ∀i∈m0,i∈m1
 loc: ∀i,i∉m1->s' i=s i∧F' i=F i
section
variable {m : Mem} {hd : Nat -> Value} {size : Nat}
theorem zBs {e:Ty}: ∀(css:List (List C)) (s:Sto) (m0:List Nat) (q:Pr (List e.den)),prElems e css s m0=some q-> ∀ {N:Nat->Prop} {F:Nat->List Nat},SInv m N s hd F size-> ∀ {vss:List (List Value)},vss.length=css.length->
  (∀(i:Nat) (h:i<css.length) (h':i<vss.length),RepCs m N s hd css[i] vss[i])-> ∃N' F' Fs,ElsOK m N s hd F size m0 e q.x q.s q.m vss N' F' Fs
 | [],s,m0,q,h,N,F,I,vss,hl,hr=>by
  obtain rfl:=qh h;have:vss= []:=by simpa using hl
  subst this
  exact ⟨N,F,[],rfl,rfl,fun i h=>absurd h (by simp),I,Goes.refl s hd,fun _=>rfl,fun _ h=>h,fun _ h=> .inl h,fun _ _ h=>h,List.nodup_nil,by simp,fun _ h=>h,fun _ _=>⟨rfl,rfl⟩⟩
 | cs::css,s,m0,q,h,N,F,I,vss,hl,hr=>by
  simp only [prElems] at h;split at h
  ·rename_i x s1 m1 hp;split at h
   ·rename_i q' hq;obtain rfl:=qh h
    match vss,hl with
    | vs::vss,hl=>
    obtain ⟨v1,v2,N1,F1,G1,k⟩:=zBq false e cs s m0 _ hp I (hr 0 (by simp) (by simp));have hv2:=RepCs.nil_inv k.rest;have hvs:vs=v1:=by have h0:=k.vs;rw [hv2,qP] at h0;exact h0
    subst hvs
    obtain ⟨N2,F2,Fs,j⟩:=zBs css s1 m1 q' hq k.inv (vss:=vss) (by simpa using hl) (fun i h h'=>by
     have:=hr (i+1) (by simpa using h) (by simpa using h');exact RepCs.goes (fun b hb=>⟨k.up b hb,rfl⟩) k.goes this)
    refine ⟨N2,F2,G1::Fs,by simp [j.len],by simp [j.lenF],fun i h h' h''=>?_,j.inv,k.goes.trans j.goes,fun i=>(j.vers i).trans (k.vers i),fun b hb=>j.up b (k.up b hb),fun b hb=>?_,fun i b hb=>k.sub i b (j.sub i b hb),?_,fun b hb=>?_,fun i hi=>j.acc i (k.acc i hi),fun i hi=>?_⟩
    ·cases i with
     | zero=>exact RepT.mono (fun b hb=>⟨j.up b hb,rfl⟩) (fun _ _=>rfl) k.rep
     | succ i=>exact j.rep i (by simpa using h) (by simpa using h') (by simpa using h'')
    ·rcases j.new b hb with h | ⟨i,h⟩
     ·exact k.new b h
     ·exact .inr ⟨i,k.sub i b h⟩
    ·rw [List.flatten_cons,qN];refine ⟨k.nod,j.nod,fun b hb b' hb' e=>?_⟩;subst e;obtain ⟨⟨i,hi⟩,_⟩:=j.own b hb';exact (k.own b hb).2.2 i hi
    ·rw [List.flatten_cons] at hb;rcases qr.1 hb with hb | hb
     ·refine ⟨(k.own b hb).1,fun hn=>?_,fun i hi=>(k.own b hb).2.2 i (j.sub i b hi)⟩;rcases j.new b hn with h | ⟨i,h⟩
      ·exact (k.own b hb).2.1 h
      ·exact (k.own b hb).2.2 i h
     ·obtain ⟨⟨i,hi⟩,h3,h4⟩:=j.own b hb;exact ⟨⟨i,k.sub i b hi⟩,h3,h4⟩
    ·have hi1:i∉m1:=fun h=>hi (j.acc i h)
     exact ⟨(j.loc i hi).1.trans (k.loc i hi1).1,(j.loc i hi).2.trans (k.loc i hi1).2⟩
   ·cases h
  ·cases h
end
theorem zAa {e:Ty}: ∀(css:List (List C)) (s:Sto) (m0:List Nat) (q:Pr (List e.den)),prElems e css s m0=some q->(∀i∈m0,i∈q.m)∧ ∀i,i∉q.m->q.s i=s i
 | [],s,m0,q,h=>by obtain rfl:=qh h;exact ⟨fun _ h=>h,fun _ _=>rfl⟩
 | cs::css,s,m0,q,h=>by
  simp only [prElems] at h;split at h
  ·rename_i x s1 m1 hp;split at h
   ·rename_i q' hq;obtain rfl:=qh h;have h1:=zFn false _ _ _ _ _ hp;have h2:=zAa css _ _ _ hq;exact ⟨fun i hi=>h2.1 i (h1.1 i hi),fun i hi=>(h2.2 i hi).trans (h1.2 i (fun h=>hi (h2.1 i h)))⟩
   ·cases h
  ·cases h
theorem zxY {e:Ty}: ∀(css:List (List C)) (s:Sto) (m0:List Nat) (q:Pr (List e.den)),prElems e css s m0=some q-> ∀(M:List Nat),(∀i∈q.m,i∈M)-> ∀(s2:Sto),(∀i∈M,s2 i=s i)->
  ∃q2:Pr (List e.den),prElems e css s2 m0=some q2∧q2.x=q.x∧q2.m=q.m∧ ∀i∈M,q2.s i=q.s i
 | [],s,m0,q,h,M,hM,s2,hs=>by obtain rfl:=qh h;exact ⟨_,rfl,rfl,rfl,hs⟩
 | cs::css,s,m0,q,h,M,hM,s2,hs=>by
  simp only [prElems] at h ⊢;split at h
  ·rename_i x s1 m1 hp;split at h
   ·rename_i q' hq;obtain rfl:=qh h;have h2:=zAa css _ _ _ hq;obtain ⟨t1,e1,g1⟩:=zsj false e _ _ _ _ hp M (fun i hi=>hM i (h2.1 i hi)) s2 hs;obtain ⟨q2,e2,x2,m2,g2⟩:=zxY css _ _ _ hq M hM t1 g1;refine ⟨{x:=x::q2.x,rest:= [],s:=q2.s,m:=q2.m},?_,by simp only [x2],m2,g2⟩;rw [e1];simp only [e2]
   ·cases h
  ·cases h
theorem zE3 {size:Nat}: ∀(parts:List (Nat×Value)) (vss:List (List Value)) (k:Nat) (cs:List Value),parts.map (·.1)=List.range' k parts.length->vss.length=parts.length->
  (∀(i:Nat) (h:i<parts.length) (h':i<vss.length),parts[i].2.cells=⟨vss[i]⟩∧vss[i].length=size)->(k+parts.length)*size<=cs.length->
  Instr.fill (fun i=>some (i*size,size)) ⟨cs⟩ parts=some ⟨cs.take (k*size)++vss.flatten++cs.drop ((k+parts.length)*size)⟩
 | [],vss,k,cs,_,hl,_,_=>by
  have:vss= []:=by simpa using hl
  subst this
  simp [Instr.fill]
 | (i,v)::parts,vs::vss,k,cs,hf,hl,hr,hc=>by
  simp only [qK,qD,List.range'_succ,List.cons.injEq] at hf;obtain ⟨rfl,hf⟩:=hf;obtain ⟨h1,h2⟩:=hr 0 (by simp) (by simp);simp only [List.getElem_cons_zero] at h1 h2;have hmul:(i+(parts.length+1))*size=i*size+size+parts.length*size:=by rw [Nat.add_mul,Nat.add_mul];omega
  simp only [qD] at hc ⊢;rw [hmul] at hc ⊢;rw [zDn (fun i=>some (i*size,size)) (off:=i*size) (vs:=vs) (by rw [h2]) h1 (by omega)];have htl:(cs.take (i*size)).length=i*size:=by rw [List.length_take];omega
  have hmul2:(i+1+parts.length)*size=i*size+size+parts.length*size:=by rw [Nat.add_mul,Nat.add_mul];omega
  rw [zE3 parts vss (i+1) _ hf (by simpa using hl) (fun j h h'=>by
   have:=hr (j+1) (by simpa using h) (by simpa using h')
   simpa using this) (by
    rw [hmul2];simp only [qL,List.length_drop,htl,h2];omega)]
  rw [hmul2]
  have e1:(cs.take (i*size)++vs++cs.drop (i*size+vs.length)).take ((i+1)*size)=cs.take (i*size)++vs:=by
   rw [List.take_append_of_le_length (by simp only [qL,htl,h2,Nat.add_mul];omega)];exact List.take_of_length_le (by simp only [qL,htl,h2,Nat.add_mul];omega)
  have e2:(cs.take (i*size)++vs++cs.drop (i*size+vs.length)).drop (i*size+size+parts.length*size)=cs.drop (i*size+size+parts.length*size):=by
   rw [List.drop_append,List.drop_eq_nil_of_le (by simp only [qL,htl,h2];omega),qC,List.drop_drop];congr 1;simp only [qL,htl,h2];omega
  rw [e1,e2];simp
section
variable {E : Env} {O : Oracle E} {X : Ctx} {o : Oper} {st : St} {R : Type} {K : Eff -> Option R} {r : R}
theorem zjC {P:Program} {t:TypeId} (h:hasZero P t=true): ∃i z,P.info? t=some i∧i.zero=some z∧i.size=szP P t∧z.cells.size=i.size∧i.bytes=bytesP P t:=by
 unfold hasZero at h;split at h
 ·rename_i i hi;split at h
  ·rename_i z hz;exact ⟨i,z,hi,hz,by simp [szP,hi],by simpa using h,by simp [bytesP,hi]⟩
  ·cases h
 ·cases h
theorem zBI {t:TypeId} {len:Nat} {parts:Array (Nat×Operand)} (ho:o.op= .buildSlice t len parts) (h:exOp E O o st K=some r): ∃e,K e=some r∧Good E X o st e:=by
 have hx: ∀p∈parts.toList,p.2∈o.op.operands:=by
  intro p hp;rw [ho];simp [Op.operands];exact ⟨p.1,by simpa using hp⟩
 simp only [exOp,ho] at h;split at h
 ·cases h
 ·rename_i te hte;have hu:=zqQ hte;split at h
  ·cases h
  ·rename_i e hty;split at h
   ·rename_i hc;obtain ⟨hidx,hsz,hne,hz,hbig⟩:=hc;split at h
    ·rename_i q hq;obtain ⟨it,z,hi1,hi2,hi3,_,_⟩:=zjC hz;refine ⟨_,h,Good.make fun st' he hi a w N hd F I=>?_⟩
     have hmap:(parts.toList.map fun p=>(st.eval p.2).cells)=(parts.toList.map fun p=>(st'.eval p.2).cells):=by
      apply List.map_congr_left;intro p hp;rw [he p.2 (hx p hp)]
     rw [hmap] at hq;obtain ⟨q2,hq2,x2,m2,g2⟩:=zxY _ _ _ _ hq (newId o.dst::q.m) (fun i hi=>qn _ hi) st'.o (fun i hi'=>hi i (.inl hi'))
     have hsel: ∀p:Nat×Operand,∃us,RepCs (memOf w) N st'.o hd (st'.eval p.2).cells us∧((st'.eval p.2).cells≠ []->(a.eval p.2).cells=⟨us⟩):=by
      intro p;by_cases hnil:(st'.eval p.2).cells= []
      ·exact ⟨[],by rw [hnil];trivial,fun h=>absurd hnil h⟩
      ·obtain ⟨us,h1,h2⟩:=RepV.cells (I.eval p.2) hnil;exact ⟨us,h2,fun _=>h1⟩
     let pick:Nat×Operand->List Value:=fun p=>Classical.choose (hsel p)
     have hpick: ∀p,RepCs (memOf w) N st'.o hd (st'.eval p.2).cells (pick p)∧((st'.eval p.2).cells≠ []->(a.eval p.2).cells=⟨pick p⟩):=fun p=>Classical.choose_spec (hsel p)
     obtain ⟨N',F',Fs,j⟩:=zBs _ _ _ _ hq2 I.s (vss:=parts.toList.map pick) (by simp) (fun i h h'=>by
      simp only [List.getElem_map];exact (hpick _).1)
     have hlp:parts.toList.length=len:=by have:=congrArg List.length hidx;simpa using this
     have hlx:List.length q2.x=len:=by rw [<-j.len,qV,hlp]
     have hcell: ∀(i:Nat) (h:i<(parts.toList.map fun p=>(p.1,a.eval p.2)).length) (h':i<(parts.toList.map pick).length),(parts.toList.map fun p=>(p.1,a.eval p.2))[i].2.cells=⟨(parts.toList.map pick)[i]⟩∧(parts.toList.map pick)[i].length=szP E.P te:=by
      intro i h h';simp only [List.getElem_map];have hil:i<parts.toList.length:=by simpa using h
      have hr:=j.rep i (by rw [hlx];omega) h' (by rw [j.lenF,hlx];omega);have hl:=hr.len;simp only [List.getElem_map] at hl;refine ⟨(hpick _).2 (fun h0=>?_),by rw [hl,hsz]⟩;have h3:=(hpick parts.toList[i]).1.len;rw [h0,hl] at h3;exact hne h3
     have hflat:(parts.toList.map pick).flatten.length=len*e.sz:=by
      rw [zP (sz:=e.sz)]
      ·rw [qV,hlp]
      ·intro y hy;obtain ⟨i,hi,rfl⟩:=qH.1 hy;rw [(hcell i (by simpa using hi) hi).2,hsz]
     have hfill: ∀cs0:List Value,cs0.length=len*szP E.P te->Instr.fill (fun i=>some (i*szP E.P te,szP E.P te)) ⟨cs0⟩ (parts.toList.map fun p=>(p.1,a.eval p.2))=some ⟨(parts.toList.map pick).flatten⟩:=by
      intro cs0 h0
      have:=zE3 (size:=szP E.P te) (parts.toList.map fun p=>(p.1,a.eval p.2)) (parts.toList.map pick) 0 cs0 (by
       have e1:(parts.toList.map fun p=>(p.1,a.eval p.2)).map (·.1)=parts.toList.map (·.1):=by simp
       rw [e1,hidx,qV,hlp,List.range_eq_range']) (by simp) hcell (by rw [h0,qV,hlp,qJ];exact ql _)
      rw [this];simp [hlp,<-h0]
     have hlen0:len*szP E.P te<=16777216:=by rw [<-hsz];exact hbig
     have hrun:(execOp a.eval o).run E.P w= .ok (.value (.slice (some ⟨w.heap.size,0,none⟩) len len)) (w.alloc (.cells ⟨(parts.toList.map pick).flatten⟩ te)):=by
      have hsr:=zms (P:=E.P) (by rw [<-hsz];exact hne) w;have hbig': ¬(16777216<len*szP E.P te):=by omega
      have hfill': ∀cs0:Array Value,cs0.size=len*szP E.P te->Instr.fill (fun i=>some (i*szP E.P te,szP E.P te)) cs0 (parts.toList.map fun p=>(p.1,a.eval p.2))=some ⟨(parts.toList.map pick).flatten⟩:=by
       intro cs0 h0;exact hfill cs0.toList (by simpa using h0)
      have hzv:(zeroValue te).run E.P w= .ok z w:=by simp [zeroValue,typeInfo,hi1,hi2]
      by_cases h0:len*szP E.P te=0
      ·simp [execOp,ho,Instr.buildSlice,run_underlying hu,hsr,hbig',h0,hfill',newRow]
      ·simp [execOp,ho,Instr.buildSlice,run_underlying hu,hsr,hbig',h0,hzv,hfill',newRow]
     have hid:(q2.s (newId o.dst))=q.s (newId o.dst):=g2 _ (by simp)
     obtain ⟨s',N2,hd',F2,L⟩:=zAA (X:=X) (st:=st') (w:=w) (e:= {v:= .one (.own (newId o.dst) ((q.s (newId o.dst)).1+1)),s:=q.s.set (newId o.dst) ((q.s (newId o.dst)).1+1,.vec e q.x),w:=newId o.dst::q.m}) I.s j.inv j.goes j.up j.new j.sub (Moves.refl w) rfl (w':=w.alloc (.cells ⟨(parts.toList.map pick).flatten⟩ te)) rfl
      (id:=newId o.dst) (ob:= .vec e q2.x) (u:= .slice (some ⟨w.heap.size,0,none⟩) len len) (cc:= .own (newId o.dst) ((q2.s (newId o.dst)).1+1)) (G:=w.heap.size::Fs.flatten)
      (by
       rw [List.nodup_cons];refine ⟨fun h=>?_,j.nod⟩;obtain ⟨⟨i,hi⟩,_⟩:=j.own _ h;exact Nat.lt_irrefl _ (I.s.ltF i _ hi))
      (by
       intro k hk;rcases qz.1 hk with rfl | hk
       ·exact ⟨by omega,fun h=>Nat.lt_irrefl _ (j.inv.ltN _ h),fun i h=>Nat.lt_irrefl _ (j.inv.ltF i _ h)⟩
       ·obtain ⟨⟨i,hi⟩,h1,h2⟩:=j.own k hk;have:=I.s.ltF i k hi;exact ⟨by omega,h1,h2⟩)
      (by
       intro k hk;rcases qz.1 hk with rfl | hk
       ·exact .inr (ql _)
       ·exact .inl (j.own k hk).1)
      (fun s'' hd'' g'' e'' hN''=> .inr ⟨w.heap.size,len,⟨(parts.toList.map pick).flatten⟩,te,parts.toList.map pick,Fs,by rw [hlx],by rw [zep],by simpa using hflat,by rw [hlx];exact ql _,(by
        have h1:len<=len*e.sz:=Nat.le_mul_of_pos_right _ (Nat.pos_of_ne_zero hne)
        simp only [maxLen];omega),j.len,j.lenF,fun i h h' h''=>RepT.mono (fun b hb=>⟨hb,hN'' b hb⟩) (fun k hk=>by
         have hkf:k∈Fs.flatten:=List.mem_flatten.2 ⟨_,qi h'',hk⟩;obtain ⟨⟨i,hi⟩,_⟩:=j.own k hkf;exact zgf w _ (I.s.ltF i k hi)) (j.rep i h h' h''),List.take_of_length_le (ql _),rfl⟩)
      (fun hd' e=>⟨by simp [Sto.set_same],rfl,fun _ _=>e.symm⟩) (by rw [hid]) (by
       intro i hi';show _=(q.s.set _ _) i;rw [<-x2,<-hid];exact (zbb (M:=newId o.dst::q.m) (s:=q.s) (s2:=q2.s) g2 _ _ i hi')) (by
       intro i hi';have h1:i≠newId o.dst:=fun h=>hi' (by rw [h];exact qv ..)
       rw [Sto.set_ne _ _ h1];exact (j.loc i (by rw [m2];exact fun h=>hi' (qn _ h))).1)
     exact ⟨_,_,[],s',N2,hd',F2,hrun,L⟩
    ·cases h
   ·cases h
end
end Go.Proofs.YtchkojfhcdcnmaaGreatMd.Ev
