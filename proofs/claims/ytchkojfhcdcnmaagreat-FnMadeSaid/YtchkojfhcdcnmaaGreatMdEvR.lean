/- Texts laid together: EvM, EvN, EvO, EvP, EvQ, EvR; no condition but those that each theorem names. -/
import Derived.Test.YtchkojfhcdcnmaaGreatMdEvL
import Derived.Carry
namespace Go.Proofs.YtchkojfhcdcnmaaGreatMd.Ev
open Go
theorem zBb {m:Mem} {N:Nat->Prop}: ∀ {τs:Ty} {x:τs.den} {us:List Value} {F:List Nat},capsOk τs=true->RepAs m N τs x us F->RepT m N τs x us F∧F= []
 | .nil,_,us,F,_,h=>by
  obtain ⟨rfl,rfl⟩:=h
  exact ⟨⟨rfl,rfl⟩,rfl⟩
 | .cons a r,x,[],F,hc,h=>h.elim
 | .cons a r,x,u::us',F,hc,h=>by
  simp only [capsOk,qq,Bool.not_eq_true',beq_iff_eq] at hc;obtain ⟨⟨⟨h1,h2⟩,h3⟩,h4⟩:=hc;obtain ⟨F1,F2,rfl,hA,hR⟩:=h;obtain ⟨k1,k2⟩:=zBb h4 hR;unfold RepA at hA;rw [qc (by simp [h1])] at hA;have e1:=RepT.imm h3 hA;subst e1;subst k2
  exact ⟨⟨[u],us',[],[],rfl,rfl,hA,k1⟩,rfl⟩
 | .bool,_,_,_,hc,_ | .int _,_,_,_,hc,_ | .str,_,_,_,hc,_ | .sl _,_,_,_,hc,_ | .own _,_,_,_,hc,_ | .agg _,_,_,_,hc,_ | .ptr _,_,_,_,hc,_ | .box _,_,_,_,hc,_ | .fn _ _,_,_,_,hc,_ | .tree,_,_,_,hc,_ | .unk,_,_,_,hc,_ | .opq,_,_,_,hc,_ | .map _,_,_,_,hc,_ | .mv _,_,_,_,hc,_ | .imap _,_,_,_,hc,_ | .iter _,_,_,_,hc,_ | .optr _,_,_,_,hc,_ | .sb _ _,_,_,_,hc,_=>by simp [capsOk] at hc
section
variable {E : Env} {O : Oracle E} {X : Ctx} {o : Oper} {st : St} {R : Type} {K : Eff -> Option R} {r : R}
theorem zyy {m:Mem} {N:Nat->Prop} {s:Sto} {hd:Nat->Value} {f:Operand->V} {g:Operand->Value}: ∀(xs:List Operand),(∀x∈xs,RepV m N s hd (f x) (g x))->RepVs m N s hd (xs.map f) (xs.map g)
 | [],_=>trivial
 | x::xs,h=>⟨h x (by simp),zyy xs (fun y hy=>h y (qn _ hy))⟩
theorem zDC {f:Go.Fn} {first captured:Array Operand} (ho:o.op= .makeFunc f first captured) (h:exOp E O o st K=some r): ∃e,K e=some r∧Good E X o st e:=by
 have hx: ∀p∈captured.toList,p∈o.op.operands:=by
  intro p hp;rw [ho];simp [Op.operands];exact .inr (by simpa using hp)
 cases f with
 | func g=>
  simp only [exOp,ho] at h;split at h
  ·rename_i hc;split at h
   ·rename_i q hq;refine ⟨_,h,Good.make fun st' he hi a w N hd F I=>?_⟩;have hmap:captured.toList.map st.eval=captured.toList.map st'.eval:=List.map_congr_left fun p hp=>(he p (hx p hp)).symm
    rw [hmap] at hq;obtain ⟨q2,hq2,x2,m2,g2⟩:=zA8 false _ _ _ _ _ hq q.m (fun i hi=>hi) st'.o (fun i hi'=>hi i (.inl hi'));obtain ⟨N',F',G,j⟩:=zxb false _ _ _ _ _ hq2 I.s (us:=captured.toList.map a.eval) (zyy _ fun x _=>I.eval x);obtain ⟨k1,k2⟩:=zBb hc.2 j.rep;subst k2;have hf:first= #[]:=by simpa using hc.1
    refine ⟨.func (.func g) #[] (captured.map a.eval),w,[],q2.s,N',hd,F',by simp [execOp,ho,Instr.makeFunc,hf],⟨g2,fun i hi=>(j.loc i (by rw [m2];exact hi)).1,Moves.refl w,by simp,j.inv,j.up,j.goes,fun k hk=>?_,fun i k hk=> .inl ⟨i,j.sub i k hk⟩,?_⟩⟩
    ·rcases j.new k hk with h | h
     ·exact .inl h
     ·exact .inr (.inl h)
    ·refine ⟨rfl,captured.toList.map a.eval,?_,?_⟩
     ·congr 1;congr 1;apply Array.ext';simp
     ·rw [<-x2];exact k1
   ·cases h
  ·cases h
 | _=>simp only [exOp,ho] at h;cases h
theorem zC9 {α:Type} [Inhabited α] (z:List α) (hz:z≠ []): ∀n,(List.range (n*z.length)).map (fun i=>z[i % z.length]!)=(List.replicate n z).flatten
 | 0=>by simp
 | n+1=>by
  have hl:0<z.length:=qX.2 hz;rw [List.replicate_succ',List.flatten_append,<-zC9 z hz n,Nat.add_mul,Nat.one_mul,List.range_add,List.map_append];congr 1;simp only [List.map_map,List.flatten_cons,List.flatten_nil,qP];apply List.ext_getElem
  ·simp
  ·intro i h1 h2;have hi:i<z.length:=by simpa using h1
   simp [Nat.mul_comm n,Nat.mod_eq_of_lt hi,hi]
theorem zB7 {t:TypeId} {l c:Operand} (ho:o.op= .makeSlice t l c) (h:exOp E O o st K=some r): ∃e,K e=some r∧Good E X o st e:=by
 have hl:l∈o.op.operands:=by rw [ho];simp [Op.operands]
 have hc:c∈o.op.operands:=by rw [ho];simp [Op.operands]
 simp only [exOp,ho] at h;split at h
 ·cases h
 ·rename_i te hte;have hu:=zqQ hte;split at h
  ·rename_i e zc n0 n0' hty hz hel hec;obtain ⟨n,hn⟩: ∃z:Int,z=n0:=⟨n0,rfl⟩;subst hn;split at h
   ·rename_i x s' hp;split at h
    ·rename_i hcond0;obtain ⟨h1,h2,h2b⟩:=hcond0;split at h
     rotate_left
     ·cases h
     rename_i hcond;obtain ⟨h3,h4,h5⟩:=hcond;have h3':(0:Int)<=n:=h3;have h4':(bytesP E.P te:Int)*n<=140737488355328:=h4;obtain ⟨n',hn'⟩: ∃z:Int,z=n0':=⟨n0',rfl⟩;subst hn';have h5':n=n':=h5;subst h5';refine ⟨_,h,Good.make fun st' he hi a w N hd F I=>?_⟩;obtain ⟨it,z,hi1,hi2,hi3,hi4⟩:=zii hz;have e1:a.eval l= .int .i64 n:=by have:=I.eval l;rw [he l hl,hel] at this;exact zcQ (m:=memOf w) (N:=N) (s:=st'.o) (hd:=hd) this
     have e2:a.eval c= .int .i64 n:=by have:=I.eval c;rw [he c hc,hec] at this;exact zcQ (m:=memOf w) (N:=N) (s:=st'.o) (hd:=hd) this
     have hby:it.bytes=bytesP E.P te:=by simp [bytesP,hi1]
     have hsz:it.size=szP E.P te:=by simp [szP,hi1]
     have hnb:n<=140737488355328:=by
      have:(1:Int)<=(bytesP E.P te:Int):=by omega
      exact Int.le_trans (by have:=Int.mul_le_mul_of_nonneg_right this h3';simpa using this) h4'
     have hrun:=run_make (P:=E.P) w t te it z hu hi1 hi2 .i64 .i64 n n h3' (Int.le_refl _) (by rw [hby];omega) (by omega);obtain ⟨p2,hp2,_⟩:=zsj false e _ _ _ _ hp [] (by simp) st'.o (by simp);obtain ⟨v1,v2,N',F',G,k⟩:=zBq false e _ _ _ _ hp2 I.s (vs:=z.cells.toList) (zjj hi3);have hv2:=RepCs.nil_inv k.rest;have hvs:z.cells.toList=v1:=by have h0:=k.vs;rw [hv2,qP] at h0;exact h0
     have hF':F'=F:=by funext i;exact (k.loc i (by simp)).2
     have hG:G= []:=by
      cases G with
      | nil=>rfl
      | cons g G=>
       obtain ⟨⟨i,h6⟩,_,h7⟩:=k.own g (by simp);rw [hF'] at h7;exact absurd h6 (h7 i)
     have hN': ∀b,N' b->N b:=by
      intro b hb;rcases k.new b hb with h | ⟨i,h⟩
      ·exact h
      ·rw [<-hF'] at h;exact absurd hb (k.inv.sep i b h)
     rw [<-hvs,hG] at k;have hrep:RepT (memOf w) N e x z.cells.toList []:=RepT.mono (fun b hb=>⟨hN' b hb,rfl⟩) (by simp) k.rep;have hzl:z.cells.toList.length=e.sz:=hrep.len
     have hmade:(madeCells z.cells (n.toNat*it.size)).toList=(List.replicate n.toNat z.cells.toList).flatten:=by
      rw [hsz,<-h1,<-hzl];have:=zC9 z.cells.toList (by intro h0;rw [h0] at hzl;exact h2 hzl.symm) n.toNat;rw [<-this];simp [madeCells,getElem!_def,Array.getElem!_eq_getD]
      try (intro q _;cases hq:z.cells[q % z.cells.size]?<;>rfl)
     have hfl:(List.replicate n.toNat z.cells.toList).flatten.length=n.toNat*e.sz:=by
      rw [zP (sz:=e.sz) _ (by intro y hy;rw [List.eq_of_mem_replicate hy];exact hzl),List.length_replicate]
     have hid:st'.o (newId o.dst)=st.o (newId o.dst):=hi _ (.inl (by simp))
     obtain ⟨s',N2,hd',F2,L⟩:=zAA (X:=X) (st:=st') (w:=w) (e:= {v:= .one (.own (newId o.dst) ((st.o (newId o.dst)).1+1)),s:=st.o.set (newId o.dst) ((st.o (newId o.dst)).1+1,.vec e (List.replicate n.toNat x)),w:= [newId o.dst]}) I.s I.s (Goes.refl _ _) (fun _ h=>h) (fun _ h=> .inl h) (fun _ _ h=>h) (Moves.refl w) rfl (w':=w.alloc (.cells (madeCells z.cells (n.toNat*it.size)) te)) rfl
      (id:=newId o.dst) (ob:= .vec e (List.replicate n.toNat x)) (u:= .slice (some ⟨w.heap.size,0,none⟩) n.toNat n.toNat) (cc:= .own (newId o.dst) ((st'.o (newId o.dst)).1+1)) (G:= [w.heap.size])
      (by simp) (by
       intro k hk;simp at hk;subst hk;exact ⟨by omega,fun h=>Nat.lt_irrefl _ (I.s.ltN _ h),fun i h=>Nat.lt_irrefl _ (I.s.ltF i _ h)⟩) (by simp)
      (fun s'' hd'' g'' e'' hN''=> .inr ⟨w.heap.size,n.toNat,madeCells z.cells (n.toNat*it.size),te,List.replicate n.toNat z.cells.toList,List.replicate n.toNat [],by simp,by rw [zep],by rw [size_madeCells,hsz,h1],by simp,(by simp only [maxLen];omega),by simp,by simp,fun i h h' h''=>by
        simp only [List.getElem_replicate];exact RepT.mono (fun b hb=>⟨hb,hN'' b hb⟩) (by simp) hrep,(by rw [hmade,List.take_of_length_le (ql _)]),(by simp)⟩)
      (fun hd' e=>⟨by simp [Sto.set_same],rfl,fun _ _=>e.symm⟩) (by rw [hid]) (by
       intro i hi';simp at hi';subst hi';show _=(st.o.set _ _) _;rw [Sto.set_same,Sto.set_same,hid]) (by
       intro i hi';simp at hi';exact Sto.set_ne _ _ hi')
     exact ⟨_,_,[],s',N2,hd',F2,by simp [execOp,ho,e1,e2,hrun],L⟩
    ·cases h
   ·cases h
  ·cases h
end
theorem Moves.setRow (w:World) (g:Nat) (cs:Array Value):Moves w (w.setRow g cs) [g]:=
 ⟨rfl,rfl,rfl,by simp,fun k _ hW=>setRow_other w g k cs (fun h=>hW (by simp [h]))⟩
theorem zhx (w:World) {g k:Nat} (cs:Array Value) (h:k≠g):memOf (w.setRow g cs) k=memOf w k:=setRow_other w g k cs h
theorem zlu (w:World) {g:Nat} {old:Array Value} {T:TypeId} (cs:Array Value) (h:memOf w g=some (.cells old T (0,0))):memOf (w.setRow g cs) g=some (.cells cs T (0,0)):=setRow_heap w g old cs T (0,0) h
theorem SInv.write {w:World} {N:Nat->Prop} {s:Sto} {hd:Nat->Value} {F:Nat->List Nat} (I:SInv (memOf w) N s hd F w.heap.size) {id:Nat} {o:Obj} {g:Nat} {cs:Array Value} (hF:F id= [g])
  (hg:Goes s (s.set id ((s id).1,o)) hd hd) (ho:(∀b,N b->N b∧memOf (w.setRow g cs) b=memOf w b)->ObjRep (memOf (w.setRow g cs)) N (s.set id ((s id).1,o)) hd o (hd id) [g]):
  SInv (memOf (w.setRow g cs)) N (s.set id ((s id).1,o)) hd F (w.setRow g cs).heap.size:=by
 have hne: ∀b,N b->b≠g:=fun b hb e=>by subst e;exact I.sep id b (by rw [hF];simp) hb
 have hN: ∀b,N b->N b∧memOf (w.setRow g cs) b=memOf w b:=fun b hb=>⟨hb,zhx w cs (hne b hb)⟩
 have:=I.upd (m':=memOf (w.setRow g cs)) (N':=N) (hd':=hd) (size':=(w.setRow g cs).heap.size) id ((s id).1,o) [g] (by simp) hN (fun k hk=>⟨by simpa using I.ltN k hk,fun i _ hi=>I.sep i k hi hk,by simpa using hne k hk⟩)
  (fun i hi k hk=>zhx w cs (fun e=>hi (I.once i id k hk (by rw [hF,e];simp)))) (by simp) (fun k hk=>by
   simp at hk;subst hk;exact ⟨by simpa using I.ltF id k (by rw [hF];simp),fun i hi h=>hi (I.once i id k h (by rw [hF];simp))⟩) hg (fun _ _=>rfl) (ho hN)
 have e:(fun i=>if i=id then [g] else F i)=F:=by
  funext i;by_cases e:i=id
  ·simp [e,hF]
  ·simp [e]
 rwa [e] at this
theorem zGb (A x B us:List Value) (off:Nat) (h:off+us.length<=x.length):
  (A++(x++B)).take (A.length+off)++us++(A++(x++B)).drop (A.length+off+us.length)=A++((x.take off++us++x.drop (off+us.length))++B):=by
 rw [List.take_append,List.take_of_length_le (show A.length<=A.length+off by omega),show A.length+off-A.length=off by omega,List.take_append_of_le_length (show off<=x.length by omega)];rw [List.drop_append,List.drop_eq_nil_of_le (show A.length<=A.length+off+us.length by omega),show A.length+off+us.length-A.length=off+us.length by omega,List.drop_append_of_le_length h];simp
section
variable {E : Env} {O : Oracle E} {X : Ctx} {o : Oper} {st : St} {R : Type} {K : Eff -> Option R} {r : R}
theorem zvF {P:Program} {w:World} {t:TypeId} {g off:Nat} {cur:Array Value} {T:TypeId} {u:Value} {us:List Value} (hs:szP P t≠0) (hu:u.cells=⟨us⟩) (hl:us.length=szP P t) (h1: ∀v∈us,v.oneCell'=true)
  (hg:memOf w g=some (.cells cur T (0,0))) (hc:off+us.length<=cur.size):
  (storeVar t ⟨g,off,none⟩ u).run P w= .ok () (w.setRow g (cur.toList.take off++us++cur.toList.drop (off+us.length)).toArray):=by
 have:=run_storeCells_at P g off T us 0 cur w hg (by simpa using hc) h1;simp only [Nat.add_zero] at this;simp [storeVar,zms hs,hu,hl,this]
theorem zFT: ∀(e:Ty) (x:e.den) (off:Nat) (cs:List C) (s:Sto) (q:Pr e.den),putAt e x off cs s=some q-> ∀(M:List Nat),(∀i∈q.m,i∈M)-> ∀(s2:Sto),(∀i∈M,s2 i=s i)->
  ∃s2',putAt e x off cs s2=some {x:=q.x,rest:=q.rest,s:=s2',m:=q.m}∧ ∀i∈M,s2' i=q.s i:=by
 intro e
 induction e with
 | agg fs ih=>
  intro x off cs s q h M hM s2 hs;simp only [putAt] at h ⊢;split at h
  ·rename_i ho;rw [qb ho];exact zsj false fs cs s [] q h M hM s2 hs
  ·rename_i ho;rw [qc ho]
   exact ih x off cs s q h M hM s2 hs
 | cons a r iha ihr=>
  intro x off cs s q h M hM s2 hs;simp only [putAt] at h ⊢;split at h
  ·rename_i ho;rw [qb ho];split at h
   ·rename_i p hp;obtain rfl:=qh h;obtain ⟨s2',k1,k2⟩:=iha x.1 off cs s p hp M hM s2 hs;exact ⟨s2',by rw [k1],k2⟩
   ·cases h
  ·rename_i ho;rw [qc ho];split at h
   ·rename_i p hp;obtain rfl:=qh h;obtain ⟨s2',k1,k2⟩:=ihr x.2 (off-a.sz) cs s p hp M hM s2 hs;exact ⟨s2',by rw [k1],k2⟩
   ·cases h
 | _=>
  intro x off cs s q h M hM s2 hs;simp only [putAt] at h ⊢;split at h
  ·rename_i ho;rw [qb ho];exact zsj false _ cs s [] q h M hM s2 hs
  ·cases h
theorem zIA {m:Mem} {hd:Nat->Value} {size:Nat} {N:Nat->Prop} {s:Sto} {F:Nat->List Nat} (I:SInv m N s hd F size) {cs:List C} {us:List Value} (hcs:RepCs m N s hd cs us): ∀(e:Ty) (x:e.den) (es:List Value) (L:List Nat) (off:Nat) (p:Pr e.den),RepT m N e x es L->putAt e x off cs s=some p->p.rest= []->
  ∃(τ:Ty) (y:τ.den) (N':Nat->Prop) (F':Nat->List Nat) (G:List Nat) (Fa Fb:List Nat),PrOK false m N s hd F size [] τ y [] p.s p.m us us [] N' F' G∧(Fa++Fb).Sublist L∧
   ∀(m2:Mem) (N2:Nat->Prop),(∀b,N' b->N2 b∧m2 b=m b)->(∀k∈Fa++(G++Fb),m2 k=m k)->RepT m2 N2 e p.x (es.take off++us++es.drop (off+us.length)) (Fa++(G++Fb)):=by
 have base: ∀(e:Ty) (es:List Value) (L:List Nat) (off:Nat) (p:Pr e.den),es.length=e.sz->off=0∧cs.length=e.sz->pr false e cs s []=some p->p.rest= []->
   ∃(τ:Ty) (y:τ.den) (N':Nat->Prop) (F':Nat->List Nat) (G:List Nat) (Fa Fb:List Nat),PrOK false m N s hd F size [] τ y [] p.s p.m us us [] N' F' G∧(Fa++Fb).Sublist L∧
   ∀(m2:Mem) (N2:Nat->Prop),(∀b,N' b->N2 b∧m2 b=m b)->(∀k∈Fa++(G++Fb),m2 k=m k)->RepT m2 N2 e p.x (es.take off++us++es.drop (off+us.length)) (Fa++(G++Fb)):=by
  intro e es L off p hl ho hp hrest;obtain ⟨rfl,hlc⟩:=ho;obtain ⟨v1,v2,N',F',G,k⟩:=zBq false e cs s [] p hp I hcs;rw [hrest] at k;have hv2:=RepCs.nil_inv k.rest;have hvs:=k.vs;subst hv2;rw [qP] at hvs;subst hvs;refine ⟨e,p.x,N',F',G,[],[],k,by simp,fun m2 N2 hN hF=>?_⟩;have hul:=hcs.len;rw [List.take_zero,qJ,List.drop_eq_nil_of_le (by omega)];simp only [qC,qP];exact RepT.mono hN (fun b hb=>hF b (by simpa using hb)) k.rep
 intro e
 induction e with
 | agg fs ih=>
  intro x es L off p hr h hrest;simp only [putAt] at h;split at h
  ·rename_i ho;exact base fs es L off p hr.len ho h hrest
  ·exact ih x es L off p hr h hrest
 | cons a r iha ihr=>
  intro x es L off p hr h hrest;obtain ⟨c1,c2,F1,F2,rfl,rfl,h1,h2⟩:=hr;have hl:=h1.len;simp only [putAt] at h;split at h
  ·rename_i ho;split at h
   ·rename_i q hq;obtain rfl:=qh h;obtain ⟨τ,y,N',F',G,Fa,Fb,k1,k2,k3⟩:=iha x.1 c1 F1 off q h1 hq hrest;refine ⟨τ,y,N',F',G,Fa,Fb++F2,k1,by rw [<-qE];exact List.Sublist.append k2 (List.Sublist.refl _),fun m2 N2 hN hF=>?_⟩
    have k4:=k3 m2 N2 hN (fun k hk=>hF k (by
     rcases qr.1 hk with h | h
     ·exact qw _ h
     ·rcases qr.1 h with h | h
      ·exact qB _ (qw _ h)
      ·exact qB _ (qB _ (qw _ h))))
    have hlen:=k4.len;simp only [qL,List.length_take,List.length_drop] at hlen;refine ⟨_,c2,_,F2,?_,?_,k4,RepT.mono (fun b hb=>hN b (k1.up b hb)) (fun k hk=>hF k (qB _ (qB _ (qB _ hk)))) h2⟩
    ·rw [List.take_append_of_le_length (by omega),List.drop_append_of_le_length (by omega)];simp
    ·simp
   ·cases h
  ·rename_i ho;split at h
   ·rename_i q hq;obtain rfl:=qh h;obtain ⟨τ,y,N',F',G,Fa,Fb,k1,k2,k3⟩:=ihr x.2 c2 F2 (off-a.sz) q h2 hq hrest;refine ⟨τ,y,N',F',G,F1++Fa,Fb,k1,by rw [qE];exact List.Sublist.append (List.Sublist.refl _) k2,fun m2 N2 hN hF=>?_⟩
    have k4:=k3 m2 N2 hN (fun k hk=>hF k (by
     rcases qr.1 hk with h | h
     ·exact qw _ (qB _ h)
     ·exact qB _ h))
    refine ⟨c1,_,F1,_,?_,?_,RepT.mono (fun b hb=>hN b (k1.up b hb)) (fun k hk=>hF k (qw _ (qw _ hk))) h1,k4⟩
    ·rw [List.take_append,List.take_of_length_le (by omega),List.drop_append,List.drop_eq_nil_of_le (by omega),hl,show off+us.length-a.sz=off-a.sz+us.length by omega];simp
    ·simp
   ·cases h
 | _=>
  intro x es L off p hr h hrest;simp only [putAt] at h;split at h
  ·rename_i ho;exact base _ es L off p hr.len ho h hrest
  ·cases h
theorem SInv.write2 {w:World} {N:Nat->Prop} {s:Sto} {hd:Nat->Value} {F:Nat->List Nat} (I:SInv (memOf w) N s hd F w.heap.size) {id:Nat} {o:Obj} {g:Nat} {cs:Array Value} {Fn:List Nat} (hF:g∈F id) (hn:Fn.Nodup) (hFn: ∀k∈Fn,k<w.heap.size∧ ¬N k∧ ∀i,i≠id->k∉F i)
  (hg:Goes s (s.set id ((s id).1,o)) hd hd) (ho:(∀b,N b->N b∧memOf (w.setRow g cs) b=memOf w b)->ObjRep (memOf (w.setRow g cs)) N (s.set id ((s id).1,o)) hd o (hd id) Fn):
  SInv (memOf (w.setRow g cs)) N (s.set id ((s id).1,o)) hd (fun i=>if i=id then Fn else F i) (w.setRow g cs).heap.size:=by
 have hne: ∀b,N b->b≠g:=fun b hb e=>by subst e;exact I.sep id b hF hb
 have hN: ∀b,N b->N b∧memOf (w.setRow g cs) b=memOf w b:=fun b hb=>⟨hb,zhx w cs (hne b hb)⟩
 exact I.upd (m':=memOf (w.setRow g cs)) (N':=N) (hd':=hd) (size':=(w.setRow g cs).heap.size) id ((s id).1,o) Fn (by simp) hN (fun k hk=>⟨by simpa using I.ltN k hk,fun i _ hi=>I.sep i k hi hk,fun h=>(hFn k h).2.1 hk⟩)
  (fun i hi k hk=>zhx w cs (fun e=>hi (I.once i id k hk (by rw [e];exact hF)))) hn (fun k hk=>⟨by simpa using (hFn k hk).1,(hFn k hk).2.2⟩) hg (fun _ _=>rfl) (ho hN)
theorem zGC {t:TypeId} {x y:Operand} (ho:o.op= .store t x y) (h:exOp E O o st K=some r): ∃e,K e=some r∧Good E X o st e:=by
 have hx:x∈o.op.operands:=by rw [ho];simp [Op.operands]
 have hy:y∈o.op.operands:=by rw [ho];simp [Op.operands]
 simp only [exOp,ho] at h
 replace h:=zax h
 obtain ⟨c,hc,h⟩:=h;split at h
 ·rename_i hlen;obtain ⟨hl1,hl2⟩:=hlen;have hsz:szP E.P t≠0:=by rw [<-hl1];exact hl2
  split at h
  ·rename_i id ver off;split at h
   ·rename_i v cs hs;split at h
    ·rename_i hcond;obtain ⟨rfl,hfit⟩:=hcond;refine ⟨_,h,Good.write rfl fun st' he hi a w N hd F I=>?_⟩;have hid:=hi id (.inl (by simp));rw [hs] at hid;have hob:=I.s.obj id;rw [hid] at hob;obtain ⟨g,vs,T,h1,h2,h3,h4⟩:=hob;have hu:=I.eval x;rw [he x hx,hc] at hu;obtain ⟨g',e1,e2⟩:=hu.2.2 (by rw [hid]) (by rw [hid];rfl);rw [h1] at e1;injection e1 with e1;injection e1 with e1;injection e1 with e1
     subst e1;have hv:=I.eval y;rw [he y hy] at hv;obtain ⟨us,u1,u2⟩:=RepV.cells hv (fun h0=>hl2 (by rw [h0];rfl));have hul:=u2.len;have hcl:=h3.len;have hgo:Goes st'.o (st'.o.set id ((st'.o id).1,.box (setCs cs off (st.eval y).cells))) hd hd:=Goes.set_like id _ (by simp [Obj.isV]) (fun _=>by rw [hid];rfl);have hrun:=zvF (P:=E.P) (w:=w) hsz u1 (by rw [hul,hl1]) (RepCs.one' u2) h2 (off:=off) (by simp;omega);have hset:st'.o.set id ((st'.o id).1,.box (setCs cs off (st.eval y).cells))=st'.o.set id ((st.o id).1,.box (setCs cs off (st.eval y).cells)):=by rw [hid,hs]
     refine ⟨_,[g],st'.o.set id ((st'.o id).1,.box (setCs cs off (st.eval y).cells)),N,hd,F,by simp [execOp,ho,Instr.storeAt,Instr.sureAddr,e2,hrun];rfl,⟨fun i hi'=>?_,fun i hi'=>?_,Moves.setRow w g _,?_,I.s.write h4 hgo ?_,fun _ h=>h,hgo,fun _ h=> .inl h,fun i k hk=> .inl ⟨i,hk⟩,trivial⟩⟩
     ·simp at hi';subst hi';show _=(st.o.set _ _) _;rw [Sto.set_same,Sto.set_same,hid]
     ·simp at hi';exact Sto.set_ne _ _ hi'
     ·intro k hk;simp at hk;subst hk;exact ⟨id,by rw [h4];simp⟩
     ·intro hN;refine ⟨g,_,T,h1,zlu w _ h2,?_,rfl⟩;have:=RepCs.goes hN hgo (RepCs.setCs h3 u2 off);simpa using this
    ·cases h
   ·cases h
  ·rename_i id ver i off;split at h
   ·rename_i v e xs hs;split at h
    ·rename_i hcond;obtain ⟨rfl,himm⟩:=hcond;obtain ⟨z,hz,h⟩:=qS.1 h;split at h
     ·rename_i hfit;split at h
      ·rename_i x' s' mm hp;split at h
       ·cases h
       ·rename_i hnm;refine ⟨_,h,Good.write rfl fun st' he hi a w N hd F I=>?_⟩;have hid:=hi id (.inl (by simp));rw [hs] at hid;have hu:=I.eval x;rw [he x hx,hc] at hu;obtain ⟨g,len,cap,e1,e2⟩:=hu.2.2 (by rw [hid]) (by rw [hid];rfl);rw [hid] at e2;have e2':a.eval x= .pointer (some ⟨g,i*e.sz+off,none⟩):=e2;obtain ⟨p2,hp2,hp3⟩:=zsj false e _ _ _ _ hp (id::mm) (fun i hi=>qn _ hi) st'.o (fun i hi'=>hi i (.inl hi'));have hv:=I.eval y;rw [he y hy] at hv;obtain ⟨us,u1,u2⟩:=RepV.cells hv (fun h0=>hl2 (by rw [h0];rfl));have hul:=u2.len;have hob:=I.s.obj id;rw [hid] at hob;obtain ⟨hilt,hzx⟩:=qW.1 hz;rcases hob with ⟨_,_,q2,_⟩ | ⟨g',cap',c,T,es,Fs,q1,q2,q3,q4,q5,q6,q7,q8,q9,q10⟩
        ·rw [q2] at hilt;simp at hilt
        ·rw [e1] at q1;simp at q1;obtain ⟨rfl,rfl,rfl⟩:=q1;have hF0: ∀(j:Nat) (h:j<Fs.length),Fs[j]= []:=fun j hj=>RepT.imm himm (q8 j (by omega) (by omega) hj)
         have hFl:Fs.flatten= []:=by
          apply List.eq_nil_iff_forall_not_mem.2;intro k hk;obtain ⟨l,hl,hk⟩:=List.mem_flatten.1 hk;obtain ⟨j,hj,rfl⟩:=qH.1 hl;rw [hF0 j hj] at hk;simp at hk
         rw [hFl] at q10;have hri:=q8 i hilt (by omega) (by omega);rw [hF0 i (by omega),hzx] at hri;have hex:RepCs (memOf w) N st'.o hd (ex e z) es[i]:=ztj himm hri;have hexl:=hex.len;obtain ⟨v1,v2,N',F',G,k⟩:=zBq false e _ _ _ _ hp2 I.s (RepCs.setCs hex u2 off);have hv2:=RepCs.nil_inv k.rest;have hvs:es[i].take off++us++es[i].drop (off+us.length)=v1:=by have h0:=k.vs;rw [hv2,qP] at h0;exact h0
         have hG:=RepT.imm himm k.rep;have hloc:p2 id=st'.o id∧F' id=F id:=k.loc id (by simpa using hnm)
         have hlen: ∀y∈es,y.length=e.sz:=by
          intro y hy;obtain ⟨j,hj,rfl⟩:=qH.1 hy;exact (q8 j (by omega) hj (by omega)).len
         have hfl:=zP es hlen
         have hcs:c.toList=es.flatten++c.toList.drop (es.length*e.sz):=by
          conv=>lhs;rw [<-wa (es.length*e.sz) c.toList]
          rw [<-hfl,q9]
         have hzl:es[i].length=e.sz:=hlen _ (qi _);have hrow:(i+1)*e.sz<=es.length*e.sz:=Nat.mul_le_mul_right _ (by omega);rw [Nat.add_mul,Nat.one_mul] at hrow;have hcap:es.length*e.sz<=c.size:=by rw [q3,q6];exact Nat.mul_le_mul_right _ q4
         have hrun:=zvF (P:=E.P) (w:=w) hsz u1 (by rw [hul,hl1]) (RepCs.one' u2) q2 (off:=i*e.sz+off) (by omega)
         have hnew:c.toList.take (i*e.sz+off)++us++c.toList.drop (i*e.sz+off+us.length)=(es.set i v1).flatten++c.toList.drop (es.length*e.sz):=by
          have hes:es=es.take i++es[i]::es.drop (i+1):=by
           rw [<-qj (by omega),wa]
          have hA:(es.take i).flatten.length=i*e.sz:=by
           rw [zP _ (fun y hy=>hlen y (List.mem_of_mem_take hy)),List.length_take];congr 1;omega
          have hset:(es.set i v1).flatten=(es.take i).flatten++(v1++(es.drop (i+1)).flatten):=by
           rw [List.set_eq_take_append_cons_drop,qb (by omega)];simp
          have hfe:es.flatten=(es.take i).flatten++(es[i]++(es.drop (i+1)).flatten):=by
           have:=congrArg List.flatten hes;rw [List.flatten_append,List.flatten_cons] at this;exact this
          have hc2:c.toList=(es.take i).flatten++(es[i]++((es.drop (i+1)).flatten++c.toList.drop (es.length*e.sz))):=
           hcs.trans (by rw [hfe];simp only [qE])
          have:=zGb (es.take i).flatten es[i] ((es.drop (i+1)).flatten++c.toList.drop (es.length*e.sz)) us off (by omega);rw [hA,<-hc2,hvs] at this;rw [this,hset];simp
         have hv1:=k.rep.len;have hgo:Goes p2 (p2.set id ((p2 id).1,.vec e (xs.set i x'))) hd hd:=Goes.set_like id _ (fun _=>by rw [hloc.1,hid];exact ⟨rfl,rfl,by simp [Obj.vlen]⟩) (by simp [Obj.isB]);refine ⟨w.setRow g (c.toList.take (i*e.sz+off)++us++c.toList.drop (i*e.sz+off+us.length)).toArray,[g],p2.set id ((p2 id).1,.vec e (xs.set i x')),N',hd,F',by simp [execOp,ho,Instr.storeAt,Instr.sureAddr,e2',hrun],⟨fun j hj=>?_,fun j hj=>?_,Moves.setRow w g _,?_,k.inv.write (by rw [hloc.2,q10]) hgo ?_,k.up,k.goes.trans hgo,fun b hb=>?_,fun j b hb=> .inl ⟨j,k.sub j b hb⟩,trivial⟩⟩
         ·show _=(s'.set id _) j;rw [hloc.1,hid];exact zbb (M:=id::mm) hp3 id _ j hj
         ·have h1:j≠id:=fun h=>hj (by rw [h];exact qv ..)
          rw [Sto.set_ne _ _ h1];exact (k.loc j (fun h=>hj (qn _ h))).1
         ·intro b hb;simp at hb;subst hb;exact ⟨id,by rw [q10];simp⟩
         ·intro hN;have hmem:=zlu w (c.toList.take (i*e.sz+off)++us++c.toList.drop (i*e.sz+off+us.length)).toArray q2
          have hsz':(c.toList.take (i*e.sz+off)++us++c.toList.drop (i*e.sz+off+us.length)).length=c.size:=by
           simp only [qL,List.length_take,List.length_drop,Array.length_toList];omega
          have hNg: ∀b,N b->memOf (w.setRow g (c.toList.take (i*e.sz+off)++us++c.toList.drop (i*e.sz+off+us.length)).toArray) b=memOf w b:=fun b hb=>(hN b (k.up b hb)).2
          refine .inr ⟨g,cap,_,T,es.set i v1,Fs,by simpa using e1,hmem,?_,by simpa using q4,q5,by simp [q6],by simp [q7],fun j hj hj' hj''=>?_,?_,by rw [hFl]⟩
          ·simp only [List.size_toArray];rw [hsz',q3]
          ·rw [hF0 j hj''];by_cases hji:j=i
           ·subst hji;simp only [List.getElem_set_self];rw [<-hG];exact RepT.mono hN (fun b hb=>by rw [hG] at hb;simp at hb) k.rep
           ·simp only [List.getElem_set_ne (Ne.symm hji)];have:=q8 j (by simpa using hj) (by simpa using hj') hj'';rw [hF0 j hj''] at this;exact RepT.mono (fun b hb=>⟨k.up b hb,hNg b hb⟩) (by simp) this
          ·simp only;rw [hnew];simp
         ·rcases k.new b hb with h | h
          ·exact .inl h
          ·exact .inr (.inl h)
      ·cases h
     ·cases h
    ·split at h
     ·rename_i hv;subst hv;obtain ⟨z,hz,h⟩:=qS.1 h;split at h
      ·rename_i x' s' mm hp;split at h
       ·cases h
       ·rename_i hnm;refine ⟨_,h,Good.write rfl fun st' he hi a w N hd F I=>?_⟩;have hid:=hi id (.inl (by simp));rw [hs] at hid;have hu:=I.eval x;rw [he x hx,hc] at hu;obtain ⟨g,len,cap,e1,e2⟩:=hu.2.2 (by rw [hid]) (by rw [hid];rfl);rw [hid] at e2;have e2':a.eval x= .pointer (some ⟨g,i*e.sz+off,none⟩):=e2;obtain ⟨p2,hp2,hp3⟩:=zFT e z off _ _ _ hp (id::mm) (fun i hi=>qn _ hi) st'.o (fun i hi'=>hi i (.inl hi'));have hv:=I.eval y;rw [he y hy] at hv;obtain ⟨us,u1,u2⟩:=RepV.cells hv (fun h0=>hl2 (by rw [h0];rfl));have hul:=u2.len;have hob:=I.s.obj id;rw [hid] at hob;obtain ⟨hilt,hzx⟩:=qW.1 hz;rcases hob with ⟨_,_,q2,_⟩ | ⟨g',cap',c,T,es,Fs,q1,q2,q3,q4,q5,q6,q7,q8,q9,q10⟩
        ·rw [q2] at hilt;simp at hilt
        ·rw [e1] at q1;simp at q1;obtain ⟨rfl,rfl,rfl⟩:=q1;have hri:=q8 i hilt (by omega) (by omega);rw [hzx] at hri;obtain ⟨τ,yv,N',F',G,Fa,Fb,k,ksub,kput⟩:=zIA I.s u2 e z es[i] Fs[i] off _ hri hp2 rfl;have hloc:p2 id=st'.o id∧F' id=F id:=k.loc id (by simpa using hnm)
         have hlen: ∀y∈es,y.length=e.sz:=by
          intro y hy;obtain ⟨j,hj,rfl⟩:=qH.1 hy;exact (q8 j (by omega) hj (by omega)).len
         have hput0:=kput (memOf w) N' (fun b hb=>⟨hb,rfl⟩) (fun _ _=>rfl);have hv1:=hput0.len
         have hfit:off+us.length<=es[i].length:=by
          simp only [qL,List.length_take,List.length_drop,hlen _ (qi (show i<es.length by omega))] at hv1 ⊢;omega
         obtain ⟨v1,hvs⟩: ∃v1,es[i].take off++us++es[i].drop (off+us.length)=v1:=⟨_,rfl⟩;rw [hvs] at kput;have hfl:=zP es hlen
         have hcs:c.toList=es.flatten++c.toList.drop (es.length*e.sz):=by
          conv=>lhs;rw [<-wa (es.length*e.sz) c.toList]
          rw [<-hfl,q9]
         have hzl:es[i].length=e.sz:=hlen _ (qi _);have hrow:(i+1)*e.sz<=es.length*e.sz:=Nat.mul_le_mul_right _ (by omega);rw [Nat.add_mul,Nat.one_mul] at hrow;have hcap:es.length*e.sz<=c.size:=by rw [q3,q6];exact Nat.mul_le_mul_right _ q4
         have hrun:=zvF (P:=E.P) (w:=w) hsz u1 (by rw [hul,hl1]) (RepCs.one' u2) q2 (off:=i*e.sz+off) (by omega)
         have hnew:c.toList.take (i*e.sz+off)++us++c.toList.drop (i*e.sz+off+us.length)=(es.set i v1).flatten++c.toList.drop (es.length*e.sz):=by
          have hes:es=es.take i++es[i]::es.drop (i+1):=by
           rw [<-qj (by omega),wa]
          have hA:(es.take i).flatten.length=i*e.sz:=by
           rw [zP _ (fun y hy=>hlen y (List.mem_of_mem_take hy)),List.length_take];congr 1;omega
          have hset:=zsP es i v1 (by omega);have hfe:=zoz es i (by omega)
          have hc2:c.toList=(es.take i).flatten++(es[i]++((es.drop (i+1)).flatten++c.toList.drop (es.length*e.sz))):=
           hcs.trans (by rw [hfe];simp only [qE])
          have:=zGb (es.take i).flatten es[i] ((es.drop (i+1)).flatten++c.toList.drop (es.length*e.sz)) us off (by omega);rw [hA,<-hc2,hvs] at this;rw [this,hset];simp
         have hgo:Goes p2 (p2.set id ((p2 id).1,.vec e (xs.set i x'))) hd hd:=Goes.set_like id _ (fun _=>by rw [hloc.1,hid];exact ⟨rfl,rfl,by simp [Obj.vlen]⟩) (by simp [Obj.isB]);have hgF:g∈F id:=by rw [q10];simp
         have hFid: ∀l∈Fs,∀b∈l,b∈F id:=fun l hl b hb=>by rw [q10];exact qn _ (List.mem_flatten.2 ⟨l,hl,hb⟩)
         have hnod:=I.s.nodup id;rw [q10] at hnod;have hgn: ∀l∈Fs,g∉l:=fun l hl hb=>(List.nodup_cons.1 hnod).1 (List.mem_flatten.2 ⟨l,hl,hb⟩)
         have hGid: ∀b∈G,b∉F id:=fun b hb=>by rw [<-hloc.2];exact (k.own b hb).2.2 id
         have hFab: ∀b∈Fa++Fb,b∈Fs[i]:=fun b hb=>ksub.subset hb
         have hset2:=zsP Fs i (Fa++(G++Fb)) (by omega);have hat2:=zoz Fs i (show i<Fs.length by omega);obtain ⟨Fn,hFn⟩: ∃Fn,Fn=g::(Fs.set i (Fa++(G++Fb))).flatten:=⟨_,rfl⟩
         have hFnm: ∀b∈Fn,b∈F id∨b∈G:=by
          intro b hb;rw [hFn,hset2] at hb;simp only [qz,qr] at hb;rcases hb with rfl | hb | (hb | hb | hb) | hb
          ·exact .inl hgF
          ·obtain ⟨l,hl,hb⟩:=List.mem_flatten.1 hb;exact .inl (hFid l (List.mem_of_mem_take hl) b hb)
          ·exact .inl (hFid _ (qi _) b (hFab b (qw _ hb)))
          ·exact .inr hb
          ·exact .inl (hFid _ (qi _) b (hFab b (qB _ hb)))
          ·obtain ⟨l,hl,hb⟩:=List.mem_flatten.1 hb;exact .inl (hFid l (List.mem_of_mem_drop hl) b hb)
         have hFnn:Fn.Nodup:=by
          have hp1:(Fs.set i (Fa++(G++Fb))).flatten.Perm (G++((Fs.take i).flatten++((Fa++Fb)++(Fs.drop (i+1)).flatten))):=by
           rw [hset2,List.perm_iff_count];intro b;simp only [List.count_append];omega
          have hsubl:((Fs.take i).flatten++((Fa++Fb)++(Fs.drop (i+1)).flatten)).Sublist Fs.flatten:=by
           rw [hat2];exact List.Sublist.append (List.Sublist.refl _) (List.Sublist.append ksub (List.Sublist.refl _))
          rw [hFn,List.nodup_cons];refine ⟨fun hm=>?_,hp1.nodup_iff.2 (qN.2 ⟨k.nod,hsubl.nodup (List.nodup_cons.1 hnod).2,fun b hb b' hb' e=>?_⟩)⟩
          ·rcases qr.1 (hp1.subset hm) with hm | hm
           ·exact hGid g hm hgF
           ·exact (List.nodup_cons.1 hnod).1 (hsubl.subset hm)
          ·subst e;exact hGid b hb (by rw [q10];exact qn _ (hsubl.subset hb'))
         have hFnok: ∀b∈Fn,b<w.heap.size∧ ¬N' b∧ ∀j,j≠id->b∉F' j:=by
          intro b hb;rcases hFnm b hb with hb | hb
          ·exact ⟨I.s.ltF id b hb,k.inv.sep id b (by rw [hloc.2];exact hb),fun j hj hb'=>hj (k.inv.once j id b hb' (by rw [hloc.2];exact hb))⟩
          ·obtain ⟨⟨j0,hj0⟩,r1,r2⟩:=k.own b hb;exact ⟨I.s.ltF j0 b hj0,r1,fun j _=>r2 j⟩
         refine ⟨w.setRow g (c.toList.take (i*e.sz+off)++us++c.toList.drop (i*e.sz+off+us.length)).toArray,[g],p2.set id ((p2 id).1,.vec e (xs.set i x')),N',hd,fun j=>if j=id then Fn else F' j,by simp [execOp,ho,Instr.storeAt,Instr.sureAddr,e2',hrun],⟨fun j hj=>?_,fun j hj=>?_,Moves.setRow w g _,?_,k.inv.write2 (by rw [hloc.2];exact hgF) hFnn hFnok hgo ?_,k.up,k.goes.trans hgo,fun b hb=>?_,fun j b hb=>?_,trivial⟩⟩
         ·show _=(s'.set id _) j;rw [hloc.1,hid];exact zbb (M:=id::mm) hp3 id _ j hj
         ·have h1:j≠id:=fun h=>hj (by rw [h];exact qv ..)
          rw [Sto.set_ne _ _ h1];exact (k.loc j (fun h=>hj (qn _ h))).1
         ·intro b hb;simp at hb;subst hb;exact ⟨id,hgF⟩
         ·intro hN;have hmem:=zlu w (c.toList.take (i*e.sz+off)++us++c.toList.drop (i*e.sz+off+us.length)).toArray q2
          have hsz':(c.toList.take (i*e.sz+off)++us++c.toList.drop (i*e.sz+off+us.length)).length=c.size:=by
           simp only [qL,List.length_take,List.length_drop,Array.length_toList];omega
          have hother: ∀b,b≠g->memOf (w.setRow g (c.toList.take (i*e.sz+off)++us++c.toList.drop (i*e.sz+off+us.length)).toArray) b=memOf w b:=fun b hb=>zhx w _ hb
          rw [hFn];refine .inr ⟨g,cap,_,T,es.set i v1,Fs.set i (Fa++(G++Fb)),by simpa using e1,hmem,?_,by simpa using q4,q5,by simp [q6],by simp [q7],fun j hj hj' hj''=>?_,?_,rfl⟩
          ·simp only [List.size_toArray];rw [hsz',q3]
          ·by_cases hji:j=i
           ·subst hji;simp only [List.getElem_set_self];refine kput _ _ hN (fun b hb=>hother b (fun hbg=>?_));subst hbg;rcases qr.1 hb with hb | hb
            ·exact hgn _ (qi _) (hFab b (qw _ hb))
            ·rcases qr.1 hb with hb | hb
             ·exact hGid b hb hgF
             ·exact hgn _ (qi _) (hFab b (qB _ hb))
           ·simp only [List.getElem_set_ne (Ne.symm hji)];have:=q8 j (by simpa using hj) (by simpa using hj') (by simpa using hj'');exact RepT.mono (fun b hb=>⟨k.up b hb,(hN b (k.up b hb)).2⟩) (fun b hb=>hother b (fun hbg=>by subst hbg;exact hgn _ (qi _) hb)) this
          ·simp only;rw [hnew];simp
         ·rcases k.new b hb with h | h
          ·exact .inl h
          ·exact .inr (.inl h)
         ·by_cases hj:j=id
          ·simp only [hj,qf] at hb;rcases hFnm b hb with h | h
           ·exact .inl ⟨id,h⟩
           ·exact .inl (k.own b h).1
          ·simp only [hj,qe] at hb;exact .inl ⟨j,k.sub j b hb⟩
      ·cases h
     ·cases h
   ·cases h
  ·cases h
 ·cases h
def RepEs (m:Mem) (N:Nat->Prop) (v:Ty):List (Int×v.den)->List MapEntry->Prop
 | [],[]=>True
 | p::xs,e::es=>e.key= .int .i64 p.1∧RepT m N v p.2 [e.val] []∧RepEs m N v xs es
 | _,_=>False
theorem RepEs.of {m:Mem} {N:Nat->Prop} {v:Ty}: ∀ {xs:List (Int×v.den)} {es:List MapEntry},es.length=xs.length->(∀(i:Nat) (h:i<xs.length) (h':i<es.length),es[i].key= .int .i64 xs[i].1∧RepT m N v xs[i].2 [es[i].val] [])->RepEs m N v xs es
 | [],[],_,_=>trivial
 | p::xs,e::es,hl,h=>⟨(h 0 (by simp) (by simp)).1,(h 0 (by simp) (by simp)).2,RepEs.of (by simpa using hl) (fun i h1 h2=>by have:=h (i+1) (by simpa using h1) (by simpa using h2);simp only [List.getElem_cons_succ] at this;exact this)⟩
 | [],_::_,hl,_=>by simp at hl
 | _::_,[],hl,_=>by simp at hl
theorem RepEs.to {m:Mem} {N:Nat->Prop} {v:Ty}: ∀ {xs:List (Int×v.den)} {es:List MapEntry},RepEs m N v xs es->es.length=xs.length∧ ∀(i:Nat) (h:i<xs.length) (h':i<es.length),es[i].key= .int .i64 xs[i].1∧RepT m N v xs[i].2 [es[i].val] []
 | [],[],_=>⟨rfl,fun i h=>absurd h (by simp)⟩
 | p::xs,e::es,⟨h1,h2,h3⟩=>by
  obtain ⟨k1,k2⟩:=RepEs.to h3;refine ⟨by simp [k1],fun i h h'=>?_⟩
  cases i with
  | zero=>exact ⟨h1,h2⟩
  | succ i=>simpa using k2 i (by simpa using h) (by simpa using h')
theorem RepEs.keys {m:Mem} {N:Nat->Prop} {v:Ty}: ∀ {xs:List (Int×v.den)} {es:List MapEntry},RepEs m N v xs es-> ∀x∈es,MapKept.IsKey (.int .i64) x.key
 | [],[],_,x,hx=>by simp at hx
 | p::xs,e::es,⟨h1,_,h3⟩,x,hx=>by
  rcases qz.1 hx with rfl | hx
  ·rw [h1];rfl
  ·exact RepEs.keys h3 x hx
theorem RepEs.app {m:Mem} {N:Nat->Prop} {v:Ty}: ∀ {xs ys:List (Int×v.den)} {es fs:List MapEntry},RepEs m N v xs es->RepEs m N v ys fs->RepEs m N v (xs++ys) (es++fs)
 | [],_,[],_,_,h=>h
 | _::_,_,_::_,_,⟨h1,h2,h3⟩,h=>⟨h1,h2,RepEs.app h3 h⟩
theorem RepEs.find {m:Mem} {N:Nat->Prop} {v:Ty} (k:Int) (z:v.den): ∀ {xs:List (Int×v.den)} {es:List MapEntry} (i:Nat),RepEs m N v xs es->
  (Instr.findNow (.int .i64) (.int .i64 k) es i=some none∧mget xs k z=z∧mhas xs k=false∧(∀y,mput xs k y=xs++ [(k,y)]))∨
  ∃j e,Instr.findNow (.int .i64) (.int .i64 k) es i=some (some (i+j,e.val))∧es[j]?=some e∧e.key= .int .i64 k∧RepT m N v (mget xs k z) [e.val] []∧mhas xs k=true∧
   (∀(y:v.den) (u:Value),RepT m N v y [u] []->RepEs m N v (mput xs k y) (es.modify j fun e=> {e with key:= .int .i64 k,val:=u}))
 | [],[],i,_=> .inl ⟨rfl,rfl,rfl,fun _=>rfl⟩
 | p::xs,e::es,i,⟨h1,h2,h3⟩=>by
  obtain ⟨a,b⟩:=p;simp only at h1 h2;by_cases hak:a=k
  ·subst hak;refine .inr ⟨0,e,by simp [Instr.findNow,h1,Instr.sameNow],rfl,h1,by simpa [mget] using h2,by simp [mhas],fun y u hu=>?_⟩;simp only [mput,qb,List.modify_zero_cons];exact ⟨rfl,hu,h3⟩
  ·have hne:(k==a)=false:=by simp;exact fun h=>hak h.symm
   rcases RepEs.find k z (i+1) h3 with ⟨f1,f2,f3,f4⟩ | ⟨j,e',f1,f2,f3,f4,f5,f6⟩
   ·exact .inl ⟨by simp [Instr.findNow,h1,Instr.sameNow,hne,f1],by simp [mget,hak,f2],by simp [mhas,hak,f3],fun y=>by simp [mput,hak,f4 y]⟩
   ·refine .inr ⟨j+1,e',by simp [Instr.findNow,h1,Instr.sameNow,hne,f1];omega,by simpa using f2,f3,by simpa [mget,hak] using f4,by simp [mhas,hak,f5],fun y u hu=>?_⟩;simp only [mput,qc hak,List.modify_succ_cons];exact ⟨h1,h2,f6 y u hu⟩
theorem zAQ {α:Type}: ∀(xs:List (Int×α)) (k:Int),mhas xs k=true↔k∈xs.map Prod.fst
 | [],k=>by simp [mhas]
 | (a,b)::r,k=>by
  simp only [mhas,qK,qz];by_cases h:a=k
  ·simp [h]
  ·rw [qc h,zAQ r k];constructor
   ·exact .inr
   ·rintro (rfl | h')
    ·exact absurd rfl h
    ·exact h'
theorem zzl {α:Type}: ∀(xs:List (Int×α)) (k:Int) (y:α),mhas xs k=true->(mput xs k y).map Prod.fst=xs.map Prod.fst
 | [],k,y,h=>by simp [mhas] at h
 | (a,b)::r,k,y,h=>by
  simp only [mput];by_cases e:a=k
  ·rw [qb e];rfl
  ·rw [qc e,qK,qK,zzl r k y (by simpa [mhas,e] using h)]
theorem zwb {α β:Type} (g:α->β) (f:α->α) (h: ∀e,g (f e)=g e): ∀(l:List α) (j:Nat),(l.modify j f).map g=l.map g
 | [],j=>by cases j<;>rfl
 | a::r,0=>by simp [h]
 | a::r,j+1=>by simp [zwb g f h r j]
theorem MapOk.push {ks:List Int} {es:Array MapEntry} {clock:Nat} (h:MapOk ks es clock) {k:Int} (hk:k∉ks) (u v:Value):MapOk (ks++ [k]) (es.push {key:=u,val:=v,born:=clock}) (clock+1):=by
 obtain ⟨h1,h2,h3⟩:=h;refine ⟨?_,?_,?_⟩
 ·rw [qN];exact ⟨h1,by simp,fun a ha b hb=>by simp at hb;subst hb;intro e;subst e;exact hk ha⟩
 ·intro x hx;rw [Array.toList_push,qr] at hx;rcases hx with hx | hx
  ·have:=h2 x hx;omega
  ·simp at hx;subst hx;simp
 ·rw [Array.toList_push,List.map_append,qN];refine ⟨h3,by simp,fun a ha b hb=>?_⟩;simp at hb;subst hb;obtain ⟨x,hx,rfl⟩:=qQ.1 ha;have:=h2 x hx;omega
theorem MapOk.modify {ks ks':List Int} {es:Array MapEntry} {clock:Nat} (h:MapOk ks es clock) (hk:ks'=ks) (j:Nat) (f:MapEntry->MapEntry) (hf: ∀e,(f e).born=e.born):MapOk ks' (es.modify j f) clock:=by
 obtain ⟨h1,h2,h3⟩:=h;subst hk
 have hm:(es.modify j f).toList.map (·.born)=es.toList.map (·.born):=by
  rw [Array.toList_modify];exact zwb _ _ hf _ _
 refine ⟨h1,fun x hx=>?_,by rw [hm];exact h3⟩;have:x.born∈es.toList.map (·.born):=by rw [<-hm];exact qQ.2 ⟨x,hx,rfl⟩
 obtain ⟨y,hy,e⟩:=qQ.1 this;rw [<-e];exact h2 y hy
theorem zpC {P:Program} {t e:TypeId} (h:mapInt P t=some e): ∃k,P.underlying t=some (.map k e)∧P.underlying k=some (.int .i64):=by
 unfold mapInt at h;split at h
 ·rename_i k e' hu;split at h
  ·rename_i hk;obtain rfl:=qh h;exact ⟨k,hu,hk⟩
  ·cases h
 ·cases h
theorem zEV {t:TypeId} {rs:Option Operand} (ho:o.op= .makeMap t rs) (h:exOp E O o st K=some r): ∃e,K e=some r∧Good E X o st e:=by
 simp only [exOp,ho] at h;split at h
 ·split at h
  ·split at h
   ·rename_i τ hτ;refine ⟨_,h,Good.make fun st' he hi a w N hd F I=>?_⟩;have hid:st'.o (newId o.dst)=st.o (newId o.dst):=hi _ (.inl (by simp));have hmem: ∀k,k<w.heap.size->memOf (w.alloc (.map #[] 0)) k=memOf w k:=fun k hk=>zgf w _ hk
    have I1:SInv (memOf (w.alloc (.map #[] 0))) N st'.o hd F (w.alloc (.map #[] 0)).heap.size:=I.s.world (by simp) hmem
    have hF:Fresh N F (w.alloc (.map #[] 0)).heap.size [w.heap.size]:=⟨by simp,by simp,by intro k hk;simp at hk;subst hk;exact fun h=>Nat.lt_irrefl _ (I.s.ltN _ h),by
     intro k hk i hk';simp at hk;subst hk;exact Nat.lt_irrefl _ (I.s.ltF i _ hk')⟩
    have k:=zmX I1 (newId o.dst) ((st.o (newId o.dst)).1+1) (.mapo τ []) (.map (some w.heap.size)) [w.heap.size] hF (by rw [hid];omega) (fun s' hd' _ _=>⟨w.heap.size, #[],0,rfl,zep w _,rfl,fun i h=>absurd h (by simp),rfl,by simp [MapOk]⟩);refine ⟨.map (some w.heap.size),w.alloc (.map #[] 0),[],_,N,_,_,by simp [execOp,ho,Go.RowKit.run_makeMap],⟨fun i hi'=>?_,fun i hi'=>?_,Moves.alloc w _,by simp,k.inv,fun _ h=>h,k.goes,fun _ h=> .inl h,fun i k' hk=>?_,?_⟩⟩
    ·simp at hi';subst hi';show _=(st.o.set _ _) _;rw [Sto.set_same,Sto.set_same]
    ·simp at hi';exact Sto.set_ne _ _ hi'
    ·rcases k.sub i k' hk with h | h
     ·exact .inl ⟨i,h⟩
     ·simp at h;subst h;exact .inr (ql _)
    ·exact ⟨by simp [Sto.set_same],rfl,fun _ _=>by simp⟩
   ·cases h
  ·cases h
 ·cases h
theorem zFP (es:Array MapEntry):(leftOf es #[]).toList=es.toList:=by
 simp [leftOf]
theorem zGI {t:TypeId} {x:Operand} (ho:o.op= .range t x) (h:exOp E O o st K=some r): ∃e,K e=some r∧Good E X o st e:=by
 have hx:x∈o.op.operands:=by rw [ho];simp [Op.operands]
 simp only [exOp,ho] at h
 replace h:=zax h
 obtain ⟨c,hc,h⟩:=h;split at h
 ·rename_i τ xs;split at h
  ·rename_i e hm;obtain ⟨kt,hu,hk⟩:=zpC hm;refine ⟨_,h,Good.make fun st' he hi a w N hd F I=>?_⟩;have hid:st'.o (newId o.dst)=st.o (newId o.dst):=hi _ (.inl (by simp));have h1:=I.eval x;rw [he x hx,hc] at h1;obtain ⟨_,g,es,clock,ys,e1,e2,e3,e4,e5,e6,e7⟩:=h1;have e0:a.eval x= .map (some g):=by simpa using e1
   have hg:w.heap[g]?=some (.map es clock):=e3;have hmem: ∀k,k<w.heap.size->memOf (w.alloc (.mapIter (some g) clock #[] clock)) k=memOf w k:=fun k hk=>zgf w _ hk
   have I1:SInv (memOf (w.alloc (.mapIter (some g) clock #[] clock))) N st'.o hd F (w.alloc (.mapIter (some g) clock #[] clock)).heap.size:=I.s.world (by simp) hmem
   have hF:Fresh N F (w.alloc (.mapIter (some g) clock #[] clock)).heap.size [w.heap.size]:=⟨by simp,by simp,by intro k hk;simp at hk;subst hk;exact fun h=>Nat.lt_irrefl _ (I.s.ltN _ h),by
    intro k hk i hk';simp at hk;subst hk;exact Nat.lt_irrefl _ (I.s.ltF i _ hk')⟩
   have hN: ∀b,N b->N b∧memOf (w.alloc (.mapIter (some g) clock #[] clock)) b=memOf w b:=fun b hb=>⟨hb,hmem b (I.s.ltN b hb)⟩
   have hl:(leftOf es #[]).toList=es.toList:=zFP es
   have k:=zmX I1 (newId o.dst) ((st.o (newId o.dst)).1+1) (.itero τ (none,xs)) (.pointer (some ⟨w.heap.size,0,none⟩)) [w.heap.size] hF (by rw [hid];omega) (fun s' hd' _ _=>
    ⟨g,w.heap.size,es,clock,clock, #[],clock,ys,rfl,rfl,zep w _,e2,by rw [(hN g e2).2];exact e3,⟨e6.2.1,ql _,e6.2.2,ql _⟩,by rw [hl];simpa using e4,fun i h h'=>by
     simp only [hl];have h'':i<es.size:=by rw [hl] at h';simpa using h'
     have:=e5 i h h'';refine ⟨by simpa using this.1,?_⟩;simpa using RepT.mono hN (by simp) this.2,e6.1,e7,by simp⟩)
   refine ⟨.pointer (some ⟨w.heap.size,0,none⟩),w.alloc (.mapIter (some g) clock #[] clock),[],_,N,_,_,by simp [execOp,ho,e0,run_range_map w t kt e g es clock hu hg],⟨fun i hi'=>?_,fun i hi'=>?_,Moves.alloc w _,by simp,k.inv,fun _ h=>h,k.goes,fun _ h=> .inl h,fun i k' hk=>?_,?_⟩⟩
   ·simp at hi';subst hi';show _=(st.o.set _ _) _;rw [Sto.set_same,Sto.set_same]
   ·simp at hi';exact Sto.set_ne _ _ hi'
   ·rcases k.sub i k' hk with h | h
    ·exact .inl ⟨i,h⟩
    ·simp at h;subst h;exact .inr (ql _)
   ·exact ⟨by simp [Sto.set_same],rfl,fun _ _=>by simp⟩
  ·cases h
 ·cases h
theorem zG9 {x:Operand} (ho:o.op= .entry x) (h:exOp E O o st K=some r): ∃e,K e=some r∧Good E X o st e:=by
 have hx:x∈o.op.operands:=by rw [ho];simp [Op.operands]
 simp only [exOp,ho] at h
 replace h:=zax h
 obtain ⟨c,hc,h⟩:=h;split at h
 ·rename_i id ver;split at h
  ·rename_i v τ p l hs;split at h
   ·rename_i hv;subst hv;refine ⟨_,h,Good.val fun st' he hi a w N hd F I=>?_⟩;have hid:=hi id (by simp);rw [hs] at hid;have h1:=I.eval x;rw [he x hx,hc] at h1;have hob:=I.s.obj id;rw [hid] at hob;have e0:a.eval x=hd id:=h1.2.2 (by rw [hid]) (by rw [hid];rfl);obtain ⟨g,r',es,clock,since,seen,c0,ys,e1,e2,e3,e4,e5,e6,e7,e8,e9,e10,e11⟩:=hob;have e1':hd id= .pointer (some ⟨r',0,none⟩):=by simpa using e1
    obtain ⟨k,s0,k1,k2,k3,k4,k5⟩:=e11 p rfl;rw [e1'] at e0;subst k2;subst k3;refine ⟨.tuple #[k.key,k.val],by simp [execOp,ho,e0,run_entry_at w r' g since s0 es c0 k e3 e5 k1 e6.2.2.1],[k.key,k.val],rfl,?_⟩;refine ⟨?_,?_,trivial⟩
    ·show RepT _ _ _ _ _ _;exact ⟨by rw [k4],rfl⟩
    ·exact k5
   ·cases h
  ·cases h
 ·cases h
theorem zI3 {α:Type} (k:Int) (z:α) {xs ys:List (Int×α)} (h:List.Perm ys xs):(ys.map Prod.fst).Nodup->mget ys k z=mget xs k z∧mhas ys k=mhas xs k:=by
 induction h with
 | nil=>intro _;exact ⟨rfl,rfl⟩
 | cons p _ ih=>
  intro hn;simp only [qK,List.nodup_cons] at hn;obtain ⟨a,b⟩:=p;simp only [mget,mhas,(ih hn.2).1,(ih hn.2).2]
  exact ⟨trivial,trivial⟩
 | swap p q r=>
  intro hn;obtain ⟨a,b⟩:=p;obtain ⟨c,d⟩:=q;simp only [qK,List.nodup_cons,qz,not_or] at hn;have hne: ¬c=a:=hn.1.1;simp only [mget,mhas];by_cases h1:c=k
  ·by_cases h2:a=k
   ·exact absurd (h1.trans h2.symm) hne
   ·simp [h1,h2]
  ·simp [h1]
 | trans h1 h2 ih1 ih2=>
  intro hn;have hn2:=(h1.map Prod.fst).nodup_iff.1 hn;exact ⟨(ih1 hn).1.trans (ih2 hn2).1,(ih1 hn).2.trans (ih2 hn2).2⟩
theorem zGE {m:Mem} {N:Nat->Prop} {s:Sto} {hd:Nat->Value} {τ:Ty} {c:C} {z:τ.den} {u:Value} (h:zeroAs τ c=some z) (hr:RepC m N s hd c u):RepT m N τ z [u] []:=by
 cases c with
 | imm σ z0=>
  have h':(if h:σ=τ then some (castDen h z0) else none:Option τ.den)=some z:=by
   cases τ<;>exact h
  split at h'
  ·rename_i e;subst e;obtain rfl:=qh h';exact hr
  ·cases h'
 | e0=>
  cases τ with
  | sl e=>
   obtain ⟨a,hr⟩:=hr;obtain rfl:=qh h
   exact ⟨rfl,a,0,[],by rw [hr];rfl,ql _,rfl,fun i h=>absurd h (by simp),fun h=>absurd rfl h⟩
  | _=>cases h
 | _=>cases τ<;>cases h
theorem zFu {t:TypeId} {x i:Operand} {ok:Bool} (ho:o.op= .lookup t x i ok) (h:exOp E O o st K=some r): ∃e,K e=some r∧Good E X o st e:=by
 have hx:x∈o.op.operands:=by rw [ho];simp [Op.operands]
 have hi:i∈o.op.operands:=by rw [ho];simp [Op.operands]
 simp only [exOp,ho] at h
 replace h:=zax h
 obtain ⟨c,hc,h⟩:=h
 replace h:=zax h
 obtain ⟨d,hd,h⟩:=h;split at h
 ·rename_i id ver k;split at h
  ·rename_i v τ xs e hs hm;obtain ⟨kt,hu,hk⟩:=zpC hm;split at h
   ·rename_i c0 hz;split at h
    ·rename_i hv;obtain ⟨rfl,hzo⟩:=hv;split at h
     ·rename_i z hza
      have main: ∀ {a:Act} {w:World} {N:Nat->Prop} {s':Sto} {hd':Nat->Value} {F:Nat->List Nat},(∀i∈ [id],s' i=st.o i)->SInv (memOf w) N s' hd' F w.heap.size->RepC (memOf w) N s' hd' (.mp id v) (a.eval x)->RepC (memOf w) N s' hd' (.imm (.int .i64) k) (a.eval i)->
        ∃u b,(Instr.lookup t (a.eval x) (a.eval i) ok).run E.P w= .ok (if ok=true then .tuple #[u,.bool b] else u) w∧RepT (memOf w) N τ (mget xs k z) [u] []∧b=mhas xs k:=by
       intro a w N s' hd' F hm' I h1 h2;have hid:=hm' id (by simp);rw [hs] at hid;have hob:=I.obj id;rw [hid] at hob;have e0:a.eval x=hd' id:=h1.2.2 (by rw [hid]) (by rw [hid];rfl);obtain ⟨g,es,clock,e1,e2,e3,e4,_⟩:=hob;have e1':hd' id= .map (some g):=by simpa using e1
       rw [e1'] at e0;have e5:=zcQ h2;have hg:w.heap[g]?=some (.map es clock):=e2;have hR:RepEs (memOf w) N τ xs es.toList:=RepEs.of (by simpa using e3) (fun i h h'=>by simpa using e4 i h (by simpa using h'));obtain ⟨it,zv,hi1,hi2,hi3,hi4⟩:=zii hz;have hkey:MapKept.IsKey (.int .i64) (.int .i64 k):=rfl;rcases RepEs.find k z 0 hR with ⟨f1,f2,f3,_⟩ | ⟨j,e',f1,f2,f3,f4,f5,_⟩
       ·have hzr:RepCs (memOf w) N s' hd' [c0] zv.cells.toList:=zjj hi3
        match hzl:zv.cells.toList,hzr with
        | [u],⟨hzr,_⟩=>
         have hone:zv=u:=by
          have h1:zv.oneCell'=true:=by
           simp only [zeroOne,hi1,hi2,qa] at hzo;cases zv<;>first | rfl | cases hzo
          rw [zv7 h1] at hzl;simpa using hzl
         refine ⟨u,false,?_,by rw [f2];exact zGE hza hzr,f3.symm⟩;subst hone;cases ok<;>simp [Instr.lookup,run_underlying hu,e0,MapKept.run_getObj_map hg,e5,MapKept.run_checkKey hk hkey,MapKept.run_findKey hk f1,hi4,Result.andThen]
       ·refine ⟨e'.val,true,?_,f4,f5.symm⟩;cases ok<;>simp [Instr.lookup,run_underlying hu,e0,MapKept.run_getObj_map hg,e5,MapKept.run_checkKey hk hkey,MapKept.run_findKey hk f1,Result.andThen]
      split at h
      ·rename_i hok;subst hok;refine ⟨_,h,zdb hc hx hd hi fun {a w N s' hd' F} hm' I h1 h2=>?_⟩;obtain ⟨u,b,hrun,hr,hb⟩:=main hm' I h1 h2;subst hb;exact ⟨.tuple #[u,.bool (mhas xs k)],by simp [execOp,ho,hrun],[u,.bool (mhas xs k)],rfl,hr,⟨rfl,rfl⟩,trivial⟩
      ·rename_i hok;have hok':ok=false:=by simpa using hok
       subst hok';refine ⟨_,h,zdb hc hx hd hi fun {a w N s' hd' F} hm' I h1 h2=>?_⟩;obtain ⟨u,b,hrun,hr,hb⟩:=main hm' I h1 h2;exact ⟨u,by simp [execOp,ho,hrun],hr⟩
     ·cases h
    ·cases h
   ·cases h
  ·cases h
 ·rename_i τ xs k;split at h
  ·rename_i e hm;obtain ⟨kt,hu,hk⟩:=zpC hm;split at h
   ·rename_i σ z hz;split at h
    ·rename_i hzo;split at h
     ·rename_i hσ;subst hσ
      have main: ∀ {a:Act} {w:World} {N:Nat->Prop} {s':Sto} {hd':Nat->Value} {F:Nat->List Nat},SInv (memOf w) N s' hd' F w.heap.size->RepC (memOf w) N s' hd' (.imm (.imap σ) xs) (a.eval x)->RepC (memOf w) N s' hd' (.imm (.int .i64) k) (a.eval i)->
        ∃u b,(Instr.lookup t (a.eval x) (a.eval i) ok).run E.P w= .ok (if ok=true then .tuple #[u,.bool b] else u) w∧RepT (memOf w) N σ (mget xs k (castDen rfl z)) [u] []∧b=mhas xs k:=by
       intro a w N s' hd' F I h1 h2;have h1':RepT (memOf w) N (.imap σ) xs [a.eval x] []:=h1;obtain ⟨_,g,es,clock,ys,e1,_,e2,e3,e4,e6,e7⟩:=h1';have e0:a.eval x= .map (some g):=by simpa using e1
       have e5:=zcQ h2;have hg:w.heap[g]?=some (.map es clock):=e2;obtain ⟨p1,p2⟩:=zI3 k (castDen rfl z) e7 e6.1;rw [<-p1,<-p2];have hR:RepEs (memOf w) N σ ys es.toList:=RepEs.of (by simpa using e3) (fun i h h'=>by simpa using e4 i h (by simpa using h'));obtain ⟨it,zv,hi1,hi2,hi3,hi4⟩:=zii hz;have hkey:MapKept.IsKey (.int .i64) (.int .i64 k):=rfl;rcases RepEs.find k (castDen rfl z) 0 hR with ⟨f1,f2,f3,_⟩ | ⟨j,e',f1,f2,f3,f4,f5,_⟩
       ·have hzr:RepCs (memOf w) N s' hd' [.imm σ z] zv.cells.toList:=zjj hi3
        match hzl:zv.cells.toList,hzr with
        | [u],⟨hzr,_⟩=>
         have hone:zv=u:=by
          have h1:zv.oneCell'=true:=by
           simp only [zeroOne,hi1,hi2,qa] at hzo;cases zv<;>first | rfl | cases hzo
          rw [zv7 h1] at hzl;simpa using hzl
         refine ⟨u,false,?_,by rw [f2];exact hzr,f3.symm⟩;subst hone;cases ok<;>simp [Instr.lookup,run_underlying hu,e0,MapKept.run_getObj_map hg,e5,MapKept.run_checkKey hk hkey,MapKept.run_findKey hk f1,hi4,Result.andThen]
       ·refine ⟨e'.val,true,?_,f4,f5.symm⟩;cases ok<;>simp [Instr.lookup,run_underlying hu,e0,MapKept.run_getObj_map hg,e5,MapKept.run_checkKey hk hkey,MapKept.run_findKey hk f1,Result.andThen]
      split at h
      ·rename_i hok;subst hok;refine ⟨_,h,zdb hc hx hd hi fun {a w N s' hd' F} hm' I h1 h2=>?_⟩;obtain ⟨u,b,hrun,hr,hb⟩:=main I h1 h2;subst hb;exact ⟨.tuple #[u,.bool (mhas xs k)],by simp [execOp,ho,hrun],[u,.bool (mhas xs k)],rfl,hr,⟨rfl,rfl⟩,trivial⟩
      ·rename_i hok;have hok':ok=false:=by simpa using hok
       subst hok';refine ⟨_,h,zdb hc hx hd hi fun {a w N s' hd' F} hm' I h1 h2=>?_⟩;obtain ⟨u,b,hrun,hr,hb⟩:=main I h1 h2;exact ⟨u,by simp [execOp,ho,hrun],hr⟩
     ·cases h
    ·cases h
   ·cases h
  ·cases h
 ·cases h
theorem Moves.setHeap (w:World) (g:Nat) (o':Go.Obj):Moves w {w with heap:=w.heap.setIfInBounds g o'} [g]:=
 ⟨rfl,rfl,rfl,by simp,fun k _ hW=>by simp [Ne.symm (fun h=>hW (by simp [h]):k≠g)]⟩
theorem zBZ {t:TypeId} {x i y:Operand} (ho:o.op= .mapUpdate t x i y) (h:exOp E O o st K=some r): ∃e,K e=some r∧Good E X o st e:=by
 have hx:x∈o.op.operands:=by rw [ho];simp [Op.operands]
 have hi:i∈o.op.operands:=by rw [ho];simp [Op.operands]
 have hy:y∈o.op.operands:=by rw [ho];simp [Op.operands]
 simp only [exOp,ho] at h
 replace h:=zax h
 obtain ⟨c,hc,h⟩:=h
 replace h:=zax h
 obtain ⟨d,hd,h⟩:=h
 replace h:=zax h
 obtain ⟨f,hf,h⟩:=h;split at h
 ·rename_i id ver n σ z;split at h
  ·rename_i v τ xs e hs hm;obtain ⟨kt,hu,hk⟩:=zpC hm;split at h
   ·rename_i hv;obtain ⟨rfl,himm⟩:=hv;split at h
    ·rename_i hσ;subst hσ;refine ⟨_,h,Good.write rfl fun st' he hi' a w N hd' F I=>?_⟩;have hid:=hi' id (.inl (by simp));rw [hs] at hid;have h1:=I.eval x;rw [he x hx,hc] at h1;have h2:=I.eval i;rw [he i hi,hd] at h2;have h3:=I.eval y;rw [he y hy,hf] at h3;have hob:=I.s.obj id;rw [hid] at hob;have e0:a.eval x=hd' id:=h1.2.2 (by rw [hid]) (by rw [hid];rfl);obtain ⟨g,es,clock,e1,e2,e3,e4,e5,e7⟩:=hob;have e1':hd' id= .map (some g):=by simpa using e1
     rw [e1'] at e0;have e6:a.eval i= .int .i64 n:=zcQ (m:=memOf w) (N:=N) (s:=st'.o) (hd:=hd') h2;have h3':RepT (memOf w) N σ z [a.eval y] []:=h3;have hg:w.heap[g]?=some (.map es clock):=e2;have hR:RepEs (memOf w) N σ xs es.toList:=RepEs.of (by simpa using e3) (fun i h h'=>by simpa using e4 i h (by simpa using h'));have hkey:MapKept.IsKey (.int .i64) (.int .i64 n):=rfl
     obtain ⟨es',clock',hrun,hR',hOk'⟩: ∃es' clock',(Instr.mapUpdate t (.map (some g)) (.int .i64 n) (a.eval y)).run E.P w= .ok () {w with heap:=w.heap.setIfInBounds g (.map es' clock')}∧RepEs (memOf w) N σ (mput xs n z) es'.toList∧MapOk (List.map Prod.fst (mput xs n z)) es' clock':=by
      rcases RepEs.find n z 0 hR with ⟨f1,_,f3',f4⟩ | ⟨j,e',f1,f2,f3,_,f5,f6⟩
      ·refine ⟨es.push {key:= .int .i64 n,val:=a.eval y,born:=clock},clock+1,by simp [Instr.mapUpdate,run_underlying hu,MapKept.run_getObj_map hg,MapKept.run_checkKey hk hkey,MapKept.run_findKey hk f1,MapKept.run_setObj_map _ hg,Result.andThen],?_,?_⟩
       ·rw [f4 z,Array.toList_push];exact RepEs.app hR ⟨rfl,h3',trivial⟩
       ·rw [f4 z,List.map_append];exact e7.push (fun h=>by rw [(zAQ xs n).2 h] at f3';cases f3') _ _
      ·have hj:es[j]?=some e':=by simpa using f2
       rw [qJ] at f1;refine ⟨es.modify j fun e=> {e with key:= .int .i64 n,val:=a.eval y},clock,by simp [Instr.mapUpdate,run_underlying hu,MapKept.run_getObj_map hg,MapKept.run_checkKey hk hkey,MapKept.run_findKey hk f1,hj,f3,MapKept.run_keyThatStays hkey,MapKept.run_setObj_map _ hg,Result.andThen],?_,?_⟩
       ·rw [Array.toList_modify];exact f6 z _ h3'
       ·exact e7.modify (zzl xs n z f5) j _ (fun _=>rfl)
     have hset:=MapKept.heap_set (o':= .map es' clock') hg;have hgo:Goes st'.o (st'.o.set id ((st'.o id).1,.mapo σ (mput xs n z))) hd' hd':=Goes.set_like id _ (by simp [Obj.isV]) (fun _=>by rw [hid];rfl);have hne: ∀b,N b->b≠g:=fun b hb e=>by subst e;exact I.s.sep id b (by rw [e5];simp) hb
     have hN: ∀b,N b->N b∧memOf {w with heap:=w.heap.setIfInBounds g (.map es' clock')} b=memOf w b:=fun b hb=>⟨hb,hset.2 b (hne b hb)⟩
     have hR2:=RepEs.to hR'
     have hinv:=I.s.upd (m':=memOf {w with heap:=w.heap.setIfInBounds g (.map es' clock')}) (N':=N) (hd':=hd') (size':=w.heap.size) id ((st'.o id).1,.mapo σ (mput xs n z)) [g] (ql _) hN (fun k hk=>⟨I.s.ltN k hk,fun i _ hi=>I.s.sep i k hi hk,by simpa using hne k hk⟩)
      (fun i hi k hk=>hset.2 k (fun e=>hi (I.s.once i id k hk (by rw [e5,e];simp)))) (by simp) (fun k hk=>by
       simp at hk;subst hk;exact ⟨I.s.ltF id k (by rw [e5];simp),fun i hi h=>hi (I.s.once i id k h (by rw [e5];simp))⟩) hgo (fun _ _=>rfl) ⟨g,es',clock',by simpa using e1',hset.1,by simpa using hR2.1,fun i h h'=>⟨(hR2.2 i h (by simpa using h')).1,RepT.mono hN (by simp) (hR2.2 i h (by simpa using h')).2⟩,rfl,hOk'⟩
     have hF:(fun i=>if i=id then [g] else F i)=F:=by
      funext i;by_cases e:i=id
      ·simp [e,e5]
      ·simp [e]
     rw [hF] at hinv;refine ⟨{w with heap:=w.heap.setIfInBounds g (.map es' clock')},[g],st'.o.set id ((st'.o id).1,.mapo σ (mput xs n z)),N,hd',F,by simp [execOp,ho,e0,e6,hrun],⟨fun j hj=>?_,fun j hj=>?_,Moves.setHeap w g _,?_,by simpa using hinv,fun _ h=>h,hgo,fun _ h=> .inl h,fun j b hb=> .inl ⟨j,hb⟩,trivial⟩⟩
     ·simp at hj;subst hj;show _=(st.o.set _ _) _;rw [Sto.set_same,Sto.set_same,hid];rfl
     ·simp at hj;exact Sto.set_ne _ _ hj
     ·intro b hb;simp at hb;subst hb;exact ⟨id,by rw [e5];simp⟩
    ·cases h
   ·cases h
  ·cases h
 ·cases h
theorem zFF {t:TypeId} {x i y:Operand} (ho:o.op= .insert t x i y) (h:exOp E O o st K=some r): ∃e,K e=some r∧Good E X o st e:=by
 have hx:x∈o.op.operands:=by rw [ho];simp [Op.operands]
 have hi:i∈o.op.operands:=by rw [ho];simp [Op.operands]
 have hy:y∈o.op.operands:=by rw [ho];simp [Op.operands]
 simp only [exOp,ho] at h
 replace h:=zax h
 obtain ⟨c,hc,h⟩:=h
 replace h:=zax h
 obtain ⟨d,hd,h⟩:=h
 replace h:=zax h
 obtain ⟨f,hf,h⟩:=h;split at h
 ·rename_i id ver n σ z;split at h
  ·rename_i v τ xs e hs hm;obtain ⟨kt,hu,hk⟩:=zpC hm;split at h
   ·rename_i hv;obtain ⟨rfl,himm⟩:=hv;split at h
    ·rename_i hσ;subst hσ;refine ⟨_,h,Good.write rfl fun st' he hi' a w N hd' F I=>?_⟩;have hid:=hi' id (.inl (by simp));rw [hs] at hid;have h1:=I.eval x;rw [he x hx,hc] at h1;have h2:=I.eval i;rw [he i hi,hd] at h2;have h3:=I.eval y;rw [he y hy,hf] at h3;have hob:=I.s.obj id;rw [hid] at hob;have e0:a.eval x=hd' id:=h1.2.2 (by rw [hid]) (by rw [hid];rfl);obtain ⟨g,es,clock,e1,e2,e3,e4,e5,e7⟩:=hob;have e1':hd' id= .map (some g):=by simpa using e1
     rw [e1'] at e0;have e6:a.eval i= .int .i64 n:=zcQ (m:=memOf w) (N:=N) (s:=st'.o) (hd:=hd') h2;have h3':RepT (memOf w) N σ z [a.eval y] []:=h3;have hg:w.heap[g]?=some (.map es clock):=e2;have hR:RepEs (memOf w) N σ xs es.toList:=RepEs.of (by simpa using e3) (fun i h h'=>by simpa using e4 i h (by simpa using h'));have hkey:MapKept.IsKey (.int .i64) (.int .i64 n):=rfl
     obtain ⟨es',clock',hrun,hR',hOk'⟩: ∃es' clock',(Instr.mapUpdate t (.map (some g)) (.int .i64 n) (a.eval y)).run E.P w= .ok () {w with heap:=w.heap.setIfInBounds g (.map es' clock')}∧RepEs (memOf w) N σ (mput xs n z) es'.toList∧MapOk (List.map Prod.fst (mput xs n z)) es' clock':=by
      rcases RepEs.find n z 0 hR with ⟨f1,_,f3',f4⟩ | ⟨j,e',f1,f2,f3,_,f5,f6⟩
      ·refine ⟨es.push {key:= .int .i64 n,val:=a.eval y,born:=clock},clock+1,by simp [Instr.mapUpdate,run_underlying hu,MapKept.run_getObj_map hg,MapKept.run_checkKey hk hkey,MapKept.run_findKey hk f1,MapKept.run_setObj_map _ hg,Result.andThen],?_,?_⟩
       ·rw [f4 z,Array.toList_push];exact RepEs.app hR ⟨rfl,h3',trivial⟩
       ·rw [f4 z,List.map_append];exact e7.push (fun h=>by rw [(zAQ xs n).2 h] at f3';cases f3') _ _
      ·have hj:es[j]?=some e':=by simpa using f2
       rw [qJ] at f1;refine ⟨es.modify j fun e=> {e with key:= .int .i64 n,val:=a.eval y},clock,by simp [Instr.mapUpdate,run_underlying hu,MapKept.run_getObj_map hg,MapKept.run_checkKey hk hkey,MapKept.run_findKey hk f1,hj,f3,MapKept.run_keyThatStays hkey,MapKept.run_setObj_map _ hg,Result.andThen],?_,?_⟩
       ·rw [Array.toList_modify];exact f6 z _ h3'
       ·exact e7.modify (zzl xs n z f5) j _ (fun _=>rfl)
     have hset:=MapKept.heap_set (o':= .map es' clock') hg;have hgo:Goes st'.o (st'.o.set id ((st'.o id).1,.mapo σ (mput xs n z))) hd' hd':=Goes.set_like id _ (by simp [Obj.isV]) (fun _=>by rw [hid];rfl);have hne: ∀b,N b->b≠g:=fun b hb e=>by subst e;exact I.s.sep id b (by rw [e5];simp) hb
     have hN: ∀b,N b->N b∧memOf {w with heap:=w.heap.setIfInBounds g (.map es' clock')} b=memOf w b:=fun b hb=>⟨hb,hset.2 b (hne b hb)⟩
     have hR2:=RepEs.to hR'
     have hinv:=I.s.upd (m':=memOf {w with heap:=w.heap.setIfInBounds g (.map es' clock')}) (N':=N) (hd':=hd') (size':=w.heap.size) id ((st'.o id).1,.mapo σ (mput xs n z)) [g] (ql _) hN (fun k hk=>⟨I.s.ltN k hk,fun i _ hi=>I.s.sep i k hi hk,by simpa using hne k hk⟩)
      (fun i hi k hk=>hset.2 k (fun e=>hi (I.s.once i id k hk (by rw [e5,e];simp)))) (by simp) (fun k hk=>by
       simp at hk;subst hk;exact ⟨I.s.ltF id k (by rw [e5];simp),fun i hi h=>hi (I.s.once i id k h (by rw [e5];simp))⟩) hgo (fun _ _=>rfl) ⟨g,es',clock',by simpa using e1',hset.1,by simpa using hR2.1,fun i h h'=>⟨(hR2.2 i h (by simpa using h')).1,RepT.mono hN (by simp) (hR2.2 i h (by simpa using h')).2⟩,rfl,hOk'⟩
     have hF:(fun i=>if i=id then [g] else F i)=F:=by
      funext i;by_cases e:i=id
      ·simp [e,e5]
      ·simp [e]
     rw [hF] at hinv;refine ⟨{w with heap:=w.heap.setIfInBounds g (.map es' clock')},[g],st'.o.set id ((st'.o id).1,.mapo σ (mput xs n z)),N,hd',F,by simp [execOp,ho,e0,e6,hrun],⟨fun j hj=>?_,fun j hj=>?_,Moves.setHeap w g _,?_,by simpa using hinv,fun _ h=>h,hgo,fun _ h=> .inl h,fun j b hb=> .inl ⟨j,hb⟩,trivial⟩⟩
     ·simp at hj;subst hj;show _=(st.o.set _ _) _;rw [Sto.set_same,Sto.set_same,hid];rfl
     ·simp at hj;exact Sto.set_ne _ _ hj
     ·intro b hb;simp at hb;subst hb;exact ⟨id,by rw [e5];simp⟩
    ·cases h
   ·cases h
  ·cases h
 ·cases h
end
structure AppSrc (P:Program) (w:World) (t':TypeId) (x:Value) (size n:Nat) (news:List Value):Prop where
 ty:(∃e,P.underlying t'=some (.slice e))∨P.underlying t'=some .string
 len: ∀w',(Builtin.lenOf x).run P w'= .ok n w'
 first: ∀w':World,(∀a,w'.cell? a=w.cell? a)->(Builtin.firstCells size n x).run P w'= .ok news.toArray w'
 hl:news.length=n*size
section
variable {P : Program} {w : World} {t t' ty te : TypeId} {i : TypeInfo} {z : Value} {x : Value} {m : Nat} {news : List Value}
theorem zyb (ht:P.underlying t=some (.slice te)) (hi:P.info? te=some i) (S:AppSrc P w t' x i.size m news)
  {g sLen sCap:Nat} {cur:Array Value} {T:TypeId} (hg:w.heap[g]?=some (.cells cur T (0,0))) (h1: ∀u∈news,u.oneCell'=true) (hroom:sLen+m<=sCap) (hfit:sLen*i.size+news.length<=cur.size):
  (Builtin.append_ #[t,t'] ty #[.slice (some ⟨g,0,none⟩) sLen sCap,x]).run P w=
   .ok (.slice (some ⟨g,0,none⟩) (sLen+m) sCap) (w.setRow g (cur.toList.take (sLen*i.size)++news++cur.toList.drop (sLen*i.size+news.length)).toArray):=by
 have hst:=run_storeCells_at P g (sLen*i.size) T news 0 cur w hg (by simpa using hfit) h1;simp only [Nat.add_zero] at hst;have hf:=S.first w (fun _=>rfl);rcases S.ty with ⟨e,hd⟩ | hd<;>simp [Builtin.append_,run_underlying ht,run_underlying hd,sizeOf,typeInfo,hi,S.len,hroom,hf,Addr.add_none,hst]
theorem zgU (ht:P.underlying t=some (.slice te)) (hi:P.info? te=some i) (S:AppSrc P w t' x i.size 0 news) {a:Option Addr} {sLen sCap:Nat} (hroom:sLen<=sCap):
  (Builtin.append_ #[t,t'] ty #[.slice a sLen sCap,x]).run P w= .ok (.slice a sLen sCap) w:=by
 have hn:news= []:=List.eq_nil_of_length_eq_zero (by simpa using S.hl);have hf:=S.first w (fun _=>rfl);rw [hn] at hf;cases a<;>rcases S.ty with ⟨e,hd⟩ | hd<;>simp [Builtin.append_,run_underlying ht,run_underlying hd,sizeOf,typeInfo,hi,S.len,hroom,hf,storeCells]
theorem zsc (ht:P.underlying t=some (.slice te)) (hi:P.info? te=some i) (hz:i.zero=some z) (S:AppSrc P w t' x i.size m news)
  {a:Option Addr} {sLen sCap:Nat} {olds:List Value} (holds: ∀w':World,(∀a,w'.cell? a=w.cell? a)->(Builtin.firstCells i.size sLen (.slice a sLen sCap)).run P w'= .ok olds.toArray w')
  (hg:sCap<sLen+m) (h63:((sLen+m:Nat):Int)<=9223372036854775807) (hfit:Builtin.nextslicecap (sLen+m) sCap*i.bytes<=281474976710656):
  (Builtin.append_ #[t,t'] ty #[.slice a sLen sCap,x]).run P w=
   .ok (.slice (some ⟨w.heap.size,0,none⟩) (sLen+m) (grownCap w (sLen+m) sCap te))
    (w.drew.alloc (.cells (olds.toArray++news.toArray++Builtin.zeroCells z.cells (grownCap w (sLen+m) sCap te-(sLen+m))) te)):=by
 have hn: ¬(sLen+m<=sCap):=by omega
 have h63': ¬(9223372036854775807<((sLen:Int)+(m:Int))):=by omega
 have h48': ¬(281474976710656<Builtin.nextslicecap (sLen+m) sCap*i.bytes):=by omega
 have hf:=S.first w.drew (fun _=>by simp);have hfo:=holds w.drew (fun _=>by simp)
 have hfin:(olds.toArray++(news.toArray++Builtin.zeroCells z.cells (grownCap w (sLen+m) sCap te-(sLen+m))))=(olds.toArray++news.toArray++Builtin.zeroCells z.cells (grownCap w (sLen+m) sCap te-(sLen+m))):=by
  rw [Array.append_assoc]
 rcases S.ty with ⟨e,hd⟩ | hd
 all_goals
  simp [Builtin.append_,run_underlying ht,run_underlying hd,sizeOf,typeInfo,zeroValue,hi,hz,S.len,hn,h63',h48',Question.forced,hf,hfo,newRow,grownCap]
  try (congr 2;apply Array.ext';simp [qE])
structure AppRow (w w':World) (size n:Nat) (xs:List Value) (g?:Option Nat) (v':Value) (g':Nat):Prop where
 row: ∃cap cells T,v'= .slice (some ⟨g',0,none⟩) n cap∧memOf w' g'=some (.cells cells T (0,0))∧cells.size=cap*size∧n<=cap∧cap<=maxLen∧cells.toList.take xs.length=xs
 mv:(g?=some g'∧Moves w w' [g']∧w'.heap.size=w.heap.size)∨(g'=w.heap.size∧Moves w w' []∧w'.heap.size=w.heap.size+1)
theorem zwV (ht:P.underlying t=some (.slice te)) (hi:P.info? te=some i) (hz:i.zero=some z) (hzs:z.cells.size=i.size) (hb0:i.bytes≠0) (S:AppSrc P w t' x i.size m news) (h1: ∀u∈news,u.oneCell'=true)
  {v:Value} {n:Nat} {olds:List Value} {g?:Option Nat} (hbytes:(n+m)*i.bytes<=140737488355328)
  (hv:(∃a,v= .slice a 0 0∧n=0∧olds= [])∨ ∃g cap cur T,g?=some g∧v= .slice (some ⟨g,0,none⟩) n cap∧memOf w g=some (.cells cur T (0,0))∧cur.size=cap*i.size∧n<=cap∧cap<=maxLen∧olds.length=n*i.size∧cur.toList.take (n*i.size)=olds):
  (m=0∧news= []∧(Builtin.append_ #[t,t'] ty #[v,x]).run P w= .ok v w)∨
  ∃v' w' g',(Builtin.append_ #[t,t'] ty #[v,x]).run P w= .ok v' w'∧AppRow w w' i.size (n+m) (olds++news) g? v' g':=by
 have hnm:n+m<=140737488355328:=Nat.le_trans (Nat.le_mul_of_pos_right _ (Nat.pos_of_ne_zero hb0)) hbytes;have hmax:n+m<=maxLen:=by simp only [maxLen];omega
 by_cases hm:m=0
 ·subst hm;have hn:news= []:=List.eq_nil_of_length_eq_zero (by simpa using S.hl);rcases hv with ⟨a,rfl,_⟩ | ⟨g,cap,cur,T,_,rfl,_,_,hle,_⟩
  ·exact .inl ⟨rfl,hn,zgU ht hi S (ql _)⟩
  ·exact .inl ⟨rfl,hn,zgU ht hi S hle⟩
 ·right
  have grown: ∀(olds:List Value) (old:Nat),olds.length=n*i.size-> ∃cells:Array Value,olds.toArray++news.toArray++Builtin.zeroCells z.cells (grownCap w (n+m) old te-(n+m))=cells∧
    AppRow w (w.drew.alloc (.cells cells te)) i.size (n+m) (olds++news) g? (.slice (some ⟨w.heap.size,0,none⟩) (n+m) (grownCap w (n+m) old te)) w.heap.size:=by
   intro olds old hol;refine ⟨_,rfl,⟨⟨_,_,te,rfl,zep w.drew _,?_,grownCap_ge w (n+m) old te,grownCap_le_maxLen w (n+m) old te hmax,?_⟩,.inr ⟨rfl,(Moves.drew w).trans (Moves.alloc w.drew _),by simp⟩⟩⟩
   ·have hge:=grownCap_ge w (n+m) old te;simp only [Array.size_append,List.size_toArray,size_zeroCells,hzs,hol,S.hl,<-Nat.add_mul];congr 1;omega
   ·simp only [Array.toList_append,qE];rw [<-qE];exact List.take_left
  rcases hv with ⟨a,rfl,rfl,rfl⟩ | ⟨g,cap,cur,T,hg?,rfl,hg,hcs,hnc,hcm,hol,htake⟩
  ·obtain ⟨cells,hc,hr⟩:=grown [] 0 (by simp)
   have:=zsc (ty:=ty) ht hi hz S (a:=a) (sLen:=0) (sCap:=0) (olds:= []) (fun w' hw=>by
    cases a with
    | none=>simp [Builtin.firstCells]
    | some a=>exact run_firstCells_some w' i.size 0 a 0 0 [] (by simp) (by simp)) (by omega) (by omega) (growslice_fits (by omega) hbytes)
   rw [hc] at this;exact ⟨_,_,_,this,hr⟩
  ·by_cases hroom:n+m<=cap
   ·have hfit:n*i.size+news.length<=cur.size:=by rw [S.hl,hcs,<-Nat.add_mul];exact Nat.mul_le_mul_right _ hroom
    have:=zyb (ty:=ty) ht hi S hg h1 hroom hfit;refine ⟨_,_,g,this,⟨⟨cap,_,T,rfl,zlu w _ hg,?_,hroom,hcm,?_⟩,.inl ⟨hg?,Moves.setRow w g _,by simp⟩⟩⟩
    ·simp only [List.size_toArray,qL,List.length_take,List.length_drop,Array.length_toList];omega
    ·simp only [htake];exact List.take_left
   ·obtain ⟨cells,hc,hr⟩:=grown olds cap hol
    have:=zsc (ty:=ty) ht hi hz S (a:=some ⟨g,0,none⟩) (sLen:=n) (sCap:=cap) (olds:=olds) (fun w' hw=>
     run_firstCells_some w' i.size n ⟨g,0,none⟩ n cap olds hol (fun j u hj=>by
      rw [hw,Addr.add_none,qJ];rw [<-htake,List.getElem?_take] at hj;split at hj
      ·have hg':w.heap[g]?=some (.cells cur T (0,0)):=hg;simp [World.cell?,hg'];simpa using hj
      ·cases hj)) (by omega) (by omega) (growslice_fits (by omega) hbytes)
    rw [hc] at this;exact ⟨_,_,_,this,hr⟩
end
def Els (m:Mem) (N:Nat->Prop) (e:Ty) (xs:List e.den) (v:Value):Prop:=
 ∃(a:Option Addr) (cap:Nat) (es:List (List Value)),v= .slice a (List.length xs) cap∧List.length xs<=cap∧es.length=List.length xs∧
  (∀(i:Nat) (h:i<List.length xs) (h':i<es.length),RepT m N e (xs[i]'h) es[i] [])∧
  (xs≠ []-> ∃b off,a=some ⟨b,off,none⟩∧cellsIn m b off es.flatten)
theorem Els.of_sl {m:Mem} {N:Nat->Prop} {e:Ty} {xs:List e.den} {v:Value} (h:RepT m N (.sl e) xs [v] []):Els m N e xs v:=by
 obtain ⟨_,a,cap,es,e1,h2,h3,h4,h5⟩:=h;refine ⟨a,cap,es,by simpa using e1,h2,h3,h4,fun hn=>?_⟩;obtain ⟨b,off,e,_,hc⟩:=h5 hn;exact ⟨b,off,e,hc⟩
theorem Els.of_own {m:Mem} {N:Nat->Prop} {e:Ty} (he:e.isImm=true) {xs:List e.den} {v:Value} {F:List Nat} (h:RepT m N (.own e) xs [v] F):Els m N e xs v:=by
 rcases h with ⟨a,h1,h2,h3⟩ | ⟨g,cap,c,T,es,Fs,h1,h2,h3,h4,h5,h6,h7,h8,h9,h10⟩
 ·subst h2;exact ⟨a,0,[],by simpa using h1,ql _,rfl,fun i h=>absurd h (by simp),fun h=>absurd rfl h⟩
 ·refine ⟨_,cap,es,by simpa using h1,h4,h6,fun i hi hi'=>?_,fun _=>⟨g,0,rfl,c,T,(0,0),h2,fun j v hj=>?_⟩⟩
  ·have h8':=h8 i hi hi' (by omega)
   rwa [RepT.imm he h8'] at h8'
  ·rw [<-h9,List.getElem?_take] at hj;split at hj
   ·simpa using hj
   ·cases hj
theorem Els.slice {m:Mem} {N:Nat->Prop} {e:Ty} {xs:List e.den} {hdv:Value} (h:Els m N e xs hdv) {lo hi:Nat} (h1:lo<=hi) (h2:hi<=xs.length):Els m N e ((xs.take hi).drop lo) (subV hdv e.sz lo hi):=by
 obtain ⟨a,cap,es,e1,hc,hes,hr,hm⟩:=h;subst e1
 have hlen: ∀x∈es,x.length=e.sz:=by
  intro x hx;obtain ⟨i,hi,rfl⟩:=qH.1 hx;exact (hr i (by omega) hi).len
 have hl:List.length ((xs.take hi).drop lo)=hi-lo:=by rw [List.length_drop,List.length_take];omega
 refine ⟨if cap=lo then a else a.map (·.add (lo*e.sz)),cap-lo,(es.take hi).drop lo,?_,by rw [hl];omega,?_,fun i hi1 hi2=>?_,fun hn=>?_⟩
 ·rw [hl];rfl
 ·rw [hl,List.length_drop,List.length_take];omega
 ·rw [hl] at hi1;have:=hr (lo+i) (by omega) (by omega);simpa using this
 ·have hn':xs≠ []:=by intro e0;subst e0;simp at hn
  obtain ⟨b,off,ea,hcell⟩:=hm hn'
  have hne:lo<hi:=by
   have h0:0<List.length ((xs.take hi).drop lo):=qX.2 hn;rw [hl] at h0;omega
  subst ea;refine ⟨b,off+lo*e.sz,?_,?_⟩
  ·rw [qc (by omega)];simp [Addr.add_none]
  ·have:=hcell.sub (lo*e.sz) ((hi-lo)*e.sz)
   rwa [zev es lo hlen,zgJ (es.drop lo) (hi-lo) (fun x hx=>hlen x (List.mem_of_mem_drop hx)),<-List.drop_take] at this
section
variable {R : Type} {r : R}
theorem zC7 {c:C} {s:Sto} {K:(e:Ty)->List e.den->List Nat->Option R} (h:getSl c s K=some r):
  ∃e xs m,K e xs m=some r∧ ∀s':Sto,(∀i∈m,s' i=s i)-> ∀ {mem:Mem} {N:Nat->Prop} {hd:Nat->Value} {F:Nat->List Nat} {size:Nat},SInv mem N s' hd F size-> ∀v,RepC mem N s' hd c v->
   e.isImm=true->Els mem N e xs v:=by
 cases c with
 | imm τ x=>
  cases τ with
  | sl e=>exact ⟨e,x,[],h,fun s' _ mem N hd F size I v hv he=>Els.of_sl hv⟩
  | _=>cases h
 | own id ver=>
  simp only [getSl] at h;split at h
  ·rename_i v e xs hs;split at h
   ·rename_i hv;subst hv;refine ⟨e,xs,[id],h,fun s' hs' mem N hd F size I u hu he=>?_⟩;have hid:=hs' id (by simp);rw [hs] at hid;have hob:=I.obj id;rw [hid] at hob;have e1:=RepC.own_hd hu hid rfl;subst e1;exact Els.of_own he hob
   ·cases h
  ·rename_i v e xs hs;split at h
   ·rename_i hv;subst hv;refine ⟨e,xs,[id],h,fun s' hs' mem N hd F size I u hu he=>?_⟩;have hid:=hs' id (by simp);rw [hs] at hid;have hob:=I.obj id;rw [hid] at hob;have e1:=RepC.own_hd hu hid rfl;subst e1;exact Els.of_sl hob.2
   ·cases h
  ·cases h
 | sub id ver lo hi=>
  simp only [getSl] at h;split at h
  ·rename_i v e xs hs;split at h
   ·rename_i hv;subst hv;refine ⟨e,_,[id],h,fun s' hs' mem N hd F size I u hu he=>?_⟩;have hid:=hs' id (by simp);rw [hs] at hid;have hob:=I.obj id;rw [hid] at hob;obtain ⟨e1,e2,e3⟩:=RepC.sub_hd hu hid rfl;rw [e1];exact (Els.of_own he hob).slice e2 e3
   ·cases h
  ·rename_i v e xs hs;split at h
   ·rename_i hv;subst hv;refine ⟨e,_,[id],h,fun s' hs' mem N hd F size I u hu he=>?_⟩;have hid:=hs' id (by simp);rw [hs] at hid;have hob:=I.obj id;rw [hid] at hob;obtain ⟨e1,e2,e3⟩:=RepC.sub_hd hu hid rfl;rw [e1];exact (Els.of_sl hob.2).slice e2 e3
   ·cases h
  ·cases h
 | _=>cases h
end
def SrcOK (P:Program) (w:World) (N:Nat->Prop) (t':TypeId) (e:Ty) (ys:List e.den) (v:Value):Prop:=
 ∃ess:List (List Value),AppSrc P w t' v e.sz ys.length ess.flatten∧ess.length=ys.length∧ ∀(i:Nat) (h:i<ys.length) (h':i<ess.length),RepT (memOf w) N e ys[i] ess[i] []
theorem Els.src {P:Program} {w:World} {N:Nat->Prop} {t' te:TypeId} {e:Ty} {ys:List e.den} {v:Value} (h:Els (memOf w) N e ys v) (ht:P.underlying t'=some (.slice te)):SrcOK P w N t' e ys v:=by
 obtain ⟨a,cap,es,rfl,hc,hes,hr,hm⟩:=h
 have hlen: ∀x∈es,x.length=e.sz:=by
  intro x hx;obtain ⟨i,hi,rfl⟩:=qH.1 hx;exact (hr i (by omega) hi).len
 have hfl:=zP es hlen;refine ⟨es,⟨.inl ⟨te,ht⟩,fun w'=>by simp [Builtin.lenOf],fun w' hw=>?_,by rw [hfl,hes]⟩,hes,hr⟩;by_cases hne:ys= []
 ·have hes0:es= []:=by rw [hne] at hes;simpa using hes
  subst hes0
  cases a with
  | none=>simp [Builtin.firstCells]
  | some a=>
   have:=run_firstCells_some (P:=P) w' e.sz ys.length a ys.length cap [] (by simp [hne]) (by simp);simpa using this
 ·obtain ⟨b,off,rfl,hcl⟩:=hm hne
  exact run_firstCells_some w' e.sz ys.length ⟨b,off,none⟩ ys.length cap es.flatten (by rw [hfl,hes]) (fun j u hj=>by
   rw [hw,Addr.add_none];exact zq2 hcl j u hj)
theorem zLI {P:Program} {w:World} {N:Nat->Prop} {t':TypeId} {y:List UInt8} (ht:P.underlying t'=some .string):SrcOK P w N t' (.int .u8) (strBytes y) (.string ⟨⟨y⟩⟩):=by
 have hf:(y.map fun b=> [Value.int .u8 (b.toNat:Int)]).flatten=y.map fun b=>Value.int .u8 (b.toNat:Int):=by
  induction y with
  | nil=>rfl
  | cons b y ih=>simp [ih]
 refine ⟨y.map fun b=> [Value.int .u8 (b.toNat:Int)],⟨.inr ht,fun w'=>by simp [Builtin.lenOf,strBytes,zw7],fun w' hw=>?_,by rw [hf];simp [strBytes,Ty.sz]⟩,by simp [strBytes],fun i h h'=>?_⟩
 ·rw [hf]
  have:(ByteArray.extract ⟨⟨y⟩⟩ 0 (List.length (strBytes y)))=⟨⟨y⟩⟩:=by
   rw [zBl];simp [strBytes]
  simp only [Builtin.firstCells,this];simp
 ·simp [strBytes];exact ⟨rfl,rfl⟩
theorem zLk {R:Type} {r:R} {x:C} {s:Sto} {K:(e:Ty)->List e.den->List Nat->Option R} (h:srcK x s K=some r):
  ∃e ys m,K e ys m=some r∧ ∀s':Sto,(∀i∈m,s' i=s i)-> ∀ {P:Program} {w:World} {N:Nat->Prop} {hd:Nat->Value} {F:Nat->List Nat},SInv (memOf w) N s' hd F w.heap.size-> ∀v,RepC (memOf w) N s' hd x v->
   ∀t',((∃y,x= .imm .str y)->P.underlying t'=some .string)->((¬ ∃y,x= .imm .str y)-> ∃te,P.underlying t'=some (.slice te))->e.isImm=true->SrcOK P w N t' e ys v:=by
 unfold srcK at h;split at h
 ·rename_i y;refine ⟨_,_,_,h,fun s' _ P w N hd F I v hv t' h1 _ _=>?_⟩;rw [zsn hv];exact zLI (h1 ⟨y,rfl⟩)
 ·rename_i hx;obtain ⟨e,ys,m,h,hg⟩:=zC7 h;refine ⟨e,ys,m,h,fun s' hs P w N hd F I v hv t' _ h2 he=>?_⟩;obtain ⟨te,hte⟩:=h2 (fun ⟨y,hy⟩=>hx y hy);exact (hg s' hs I v hv he).src hte
theorem zuT {P:Program} {w:World} {N:Nat->Prop} {t t' ty te:TypeId} {i:TypeInfo} {z:Value} {e:Ty} (he:e.isImm=true) (ht:P.underlying t=some (.slice te)) (hi:P.info? te=some i) (hz:i.zero=some z) (hzs:z.cells.size=i.size) (hb0:i.bytes≠0) (hes:e.sz=i.size)
  {xs ys:List e.den} {v x:Value} {G:List Nat} (hv:RepT (memOf w) N (.own e) xs [v] G) (hN: ∀k,N k->k<w.heap.size∧k∉G) (S:SrcOK P w N t' e ys x) (hbytes:(xs.length+ys.length)*i.bytes<=140737488355328):
  ∃v' w' G' W,(Builtin.append_ #[t,t'] ty #[v,x]).run P w= .ok v' w'∧Moves w w' W∧(∀k∈W,k∈G)∧RepT (memOf w') N (.own e) (xs++ys) [v'] G'∧(∀k∈G',(k∈G∧k<w'.heap.size)∨(w.heap.size<=k∧k<w'.heap.size))∧G'.Nodup:=by
 obtain ⟨ess,S,hl,hr⟩:=S;rw [hes] at S
 have hone: ∀u∈ess.flatten,u.oneCell'=true:=by
  intro u hu;obtain ⟨l,h1,h2⟩:=List.mem_flatten.1 hu;obtain ⟨j,hj,rfl⟩:=qH.1 h1;exact RepT.one' (hr j (by omega) hj) u h2
 obtain ⟨es,g?,hesl,her,hcase,hG,hGn⟩: ∃(es:List (List Value)) (g?:Option Nat),es.length=xs.length∧(∀(j:Nat) (h:j<xs.length) (h':j<es.length),RepT (memOf w) N e xs[j] es[j] [])∧
   ((∃a,v= .slice a 0 0∧xs.length=0∧es.flatten= [])∨ ∃g cap cur T,g?=some g∧v= .slice (some ⟨g,0,none⟩) xs.length cap∧memOf w g=some (.cells cur T (0,0))∧cur.size=cap*i.size∧xs.length<=cap∧cap<=maxLen∧es.flatten.length=xs.length*i.size∧cur.toList.take (xs.length*i.size)=es.flatten)∧
   (∀g,g?=some g->g∈G∧g<w.heap.size)∧G.Nodup:=by
  rcases hv with ⟨a,h1,h2,h3⟩ | ⟨g,cap,c,T,es,Fs,h1,h2,h3,h4,h5,h6,h7,h8,h9,h10⟩
  ·subst h2;exact ⟨[],none,rfl,fun j h=>absurd h (by simp),.inl ⟨a,by simpa using h1,rfl,rfl⟩,by simp,by rw [h3];exact List.nodup_nil⟩
  ·have her: ∀(j:Nat) (h:j<List.length xs) (h':j<es.length),RepT (memOf w) N e xs[j] es[j] []:=fun j h h'=>by
    have:=h8 j h h' (by omega)
    rwa [RepT.imm he this] at this
   have hFs:Fs.flatten= []:=by
    apply List.eq_nil_iff_forall_not_mem.2;intro k hk;obtain ⟨l,hl,hk⟩:=List.mem_flatten.1 hk;obtain ⟨j,hj,rfl⟩:=qH.1 hl;rw [RepT.imm he (h8 j (by omega) (by omega) hj)] at hk;simp at hk
   have hfl:es.flatten.length=es.length*i.size:=by
    rw [<-hes]
    exact zP es (by
     intro y hy;obtain ⟨j,hj,rfl⟩:=qH.1 hy;exact (her j (by omega) hj).len)
   refine ⟨es,some g,h6,her,.inr ⟨g,cap,c,T,rfl,by simpa using h1,h2,by rw [h3,hes],h4,h5,by rw [hfl,h6],by rw [<-h6,<-hfl,h9]⟩,fun g' hg'=>?_,by rw [h10,hFs];simp⟩;injection hg' with hg';subst hg'
   refine ⟨by rw [h10];simp,?_⟩;have h2':w.heap[g]?=some (.cells c T (0,0)):=h2;exact (Array.getElem?_eq_some_iff.1 h2').1
 have hall: ∀w',(∀k,N k->memOf w' k=memOf w k)-> ∀(j:Nat) (h:j<(xs++ys).length) (h':j<(es++ess).length),RepT (memOf w') N e (xs++ys)[j] (es++ess)[j] []:=by
  intro w' hm j h h';rw [List.getElem_append,List.getElem_append];by_cases hj:j<xs.length
  ·rw [dif_pos hj,dif_pos (by omega)];exact RepT.mono (fun b hb=>⟨hb,hm b hb⟩) (by simp) (her j hj (by omega))
  ·rw [dif_neg hj,dif_neg (by omega)];have:=hr (j-xs.length) (by simp at h;omega) (by simp at h';omega);simp only [hesl];exact RepT.mono (fun b hb=>⟨hb,hm b hb⟩) (by simp) this
 rcases zwV (ty:=ty) ht hi hz hzs hb0 S hone (g?:=g?) hbytes hcase with ⟨h0,h1,h2⟩ | ⟨v',w',g',h1,h2⟩
 ·have hys:ys= []:=List.eq_nil_of_length_eq_zero h0;subst hys;refine ⟨v,w,G,[],h2,Moves.refl w,by simp,by rw [qP];exact hv,fun k hk=> .inl ⟨hk,?_⟩,hGn⟩;rcases hv with ⟨a,_,_,h3⟩ | ⟨g,cap,c,T,es,Fs,h1,h2,h3,h4,h5,h6,h7,h8,h9,h10⟩
  ·rw [h3] at hk;simp at hk
  ·have hFs:Fs.flatten= []:=by
    apply List.eq_nil_iff_forall_not_mem.2;intro k hk;obtain ⟨l,hl,hk⟩:=List.mem_flatten.1 hk;obtain ⟨j,hj,rfl⟩:=qH.1 hl;rw [RepT.imm he (h8 j (by omega) (by omega) hj)] at hk;simp at hk
   rw [h10,hFs] at hk;simp at hk;subst hk;have h2':w.heap[k]?=some (.cells c T (0,0)):=h2;exact (Array.getElem?_eq_some_iff.1 h2').1
 ·obtain ⟨⟨cap,cells,T,r1,r2,r3,r4,r5,r6⟩,hmv⟩:=h2
  have hW: ∃W,Moves w w' W∧(∀k∈W,k∈G)∧((g'∈G∧g'<w'.heap.size)∨(w.heap.size<=g'∧g'<w'.heap.size)):=by
   rcases hmv with ⟨hg,hmv,hs⟩ | ⟨rfl,hmv,hs⟩
   ·obtain ⟨q1,q2⟩:=hG g' hg;exact ⟨[g'],hmv,fun k hk=>by simp at hk;subst hk;exact q1,.inl ⟨q1,by omega⟩⟩
   ·exact ⟨[],hmv,by simp,.inr ⟨ql _,by omega⟩⟩
  obtain ⟨W,hmv',hWG,hg'⟩:=hW;have hm: ∀k,N k->memOf w' k=memOf w k:=fun k hk=>hmv'.block k (hN k hk).1 (fun h=>(hN k hk).2 (hWG k h))
  refine ⟨v',w',[g'],W,h1,hmv',hWG,.inr ⟨g',cap,cells,T,es++ess,List.replicate (List.length (xs++ys)) [],by rw [r1];simp,r2,by rw [r3,hes],by simpa using r4,r5,by simp [hesl,hl],by simp,fun j h h' h''=>by
   rw [List.getElem_replicate];exact hall w' hm j h h',by rw [List.flatten_append];exact r6,by simp⟩,fun k hk=>by simp at hk;subst hk;exact hg',by simp⟩
theorem AppSrc.of_own {P:Program} {w:World} {N:Nat->Prop} {t' te:TypeId} {e:Ty} {ys:List e.den} {x:Value} {H:List Nat} (hy:RepT (memOf w) N (.own e) ys [x] H) (hn:H.Nodup) (ht:P.underlying t'=some (.slice te)):
  ∃(ess:List (List Value)) (Hs:List (List Nat)),AppSrc P w t' x e.sz ys.length ess.flatten∧ess.length=ys.length∧Hs.length=ys.length∧(∀(i:Nat) (h:i<ys.length) (h':i<ess.length) (h'':i<Hs.length),RepT (memOf w) N e ys[i] ess[i] Hs[i])∧(∀k∈Hs.flatten,k∈H)∧Hs.flatten.Nodup:=by
 rcases hy with ⟨a,h1,h2,h3⟩ | ⟨g,cap,c,T,es,Fs,h1,h2,h3,h4,h5,h6,h7,h8,h9,h10⟩
 ·subst h2;have h1':x= .slice a 0 0:=by simpa using h1
  subst h1';refine ⟨[],[],⟨.inl ⟨te,ht⟩,fun w'=>by simp [Builtin.lenOf],fun w' hw=>?_,by simp⟩,rfl,rfl,fun i h=>absurd h (by simp),by simp,List.nodup_nil⟩
  cases a with
  | none=>simp [Builtin.firstCells]
  | some a=>exact run_firstCells_some w' e.sz 0 a 0 0 [] (by simp) (by simp)
 ·have h1':x= .slice (some ⟨g,0,none⟩) (List.length ys) cap:=by simpa using h1
  subst h1'
  have hlen: ∀y∈es,y.length=e.sz:=by
   intro y hy;obtain ⟨j,hj,rfl⟩:=qH.1 hy;exact (h8 j (by omega) hj (by omega)).len
  have hfl:=zP es hlen
  have hcl:cellsIn (memOf w) g 0 es.flatten:=⟨c,T,(0,0),h2,fun j v hj=>by
   rw [<-h9,List.getElem?_take] at hj;split at hj
   ·simpa using hj
   ·cases hj⟩
  refine ⟨es,Fs,⟨.inl ⟨te,ht⟩,fun w'=>by simp [Builtin.lenOf],fun w' hw=>?_,by rw [hfl,h6]⟩,h6,h7,fun i h h' h''=>h8 i h h' h'',fun k hk=>by rw [h10];exact qn _ hk,by rw [h10] at hn;exact (List.nodup_cons.1 hn).2⟩
  exact run_firstCells_some w' e.sz ys.length ⟨g,0,none⟩ ys.length cap es.flatten (by rw [hfl,h6]) (fun j u hj=>by
   rw [hw,Addr.add_none];exact zq2 hcl j u hj)
theorem zAe {P:Program} {w:World} {N:Nat->Prop} {t ty te:TypeId} {i:TypeInfo} {z:Value} {e:Ty} (ht:P.underlying t=some (.slice te)) (hi:P.info? te=some i) (hz:i.zero=some z) (hzs:z.cells.size=i.size) (hb0:i.bytes≠0) (hes:e.sz=i.size)
  {xs ys:List e.den} {v x:Value} {G H:List Nat} (hv:RepT (memOf w) N (.own e) xs [v] G) (hy:RepT (memOf w) N (.own e) ys [x] H) (hN: ∀k,N k->k<w.heap.size∧k∉G) (hGl: ∀k∈G,k<w.heap.size) (hHl: ∀k∈H,k<w.heap.size) (hGn:G.Nodup) (hHn:H.Nodup) (hGH: ∀k∈G,k∉H)
  (hbytes:(xs.length+ys.length)*i.bytes<=140737488355328):
  ∃v' w' G' W,(Builtin.append_ #[t,t] ty #[v,x]).run P w= .ok v' w'∧Moves w w' W∧(∀k∈W,k∈G)∧RepT (memOf w') N (.own e) (xs++ys) [v'] G'∧(∀k∈G',((k∈G∨k∈H)∧k<w'.heap.size)∨(w.heap.size<=k∧k<w'.heap.size))∧G'.Nodup:=by
 obtain ⟨ess,Hs,S,hl,hHs,hr,hHm,hHsn⟩:=AppSrc.of_own (P:=P) (t':=t) hy hHn ht;rw [hes] at S
 have hone: ∀u∈ess.flatten,u.oneCell'=true:=by
  intro u hu;obtain ⟨l,h1,h2⟩:=List.mem_flatten.1 hu;obtain ⟨j,hj,rfl⟩:=qH.1 h1;exact RepT.one' (hr j (by omega) hj (by omega)) u h2
 obtain ⟨es,Fs,g?,hesl,hFsl,her,hcase,hG,hFm,hFn⟩: ∃(es:List (List Value)) (Fs:List (List Nat)) (g?:Option Nat),es.length=xs.length∧Fs.length=xs.length∧(∀(j:Nat) (h:j<xs.length) (h':j<es.length) (h'':j<Fs.length),RepT (memOf w) N e xs[j] es[j] Fs[j])∧
   ((∃a,v= .slice a 0 0∧xs.length=0∧es.flatten= [])∨ ∃g cap cur T,g?=some g∧v= .slice (some ⟨g,0,none⟩) xs.length cap∧memOf w g=some (.cells cur T (0,0))∧cur.size=cap*i.size∧xs.length<=cap∧cap<=maxLen∧es.flatten.length=xs.length*i.size∧cur.toList.take (xs.length*i.size)=es.flatten)∧
   (∀g,g?=some g->g∈G∧g∉Fs.flatten)∧(∀k∈Fs.flatten,k∈G)∧Fs.flatten.Nodup:=by
  rcases hv with ⟨a,h1,h2,h3⟩ | ⟨g,cap,c,T,es,Fs,h1,h2,h3,h4,h5,h6,h7,h8,h9,h10⟩
  ·subst h2;exact ⟨[],[],none,rfl,rfl,fun j h=>absurd h (by simp),.inl ⟨a,by simpa using h1,rfl,rfl⟩,by simp,by simp,List.nodup_nil⟩
  ·have hfl:es.flatten.length=es.length*i.size:=by
    rw [<-hes]
    exact zP es (by
     intro y hy;obtain ⟨j,hj,rfl⟩:=qH.1 hy;exact (h8 j (by omega) hj (by omega)).len)
   rw [h10] at hGn;refine ⟨es,Fs,some g,h6,h7,h8,.inr ⟨g,cap,c,T,rfl,by simpa using h1,h2,by rw [h3,hes],h4,h5,by rw [hfl,h6],by rw [<-h6,<-hfl,h9]⟩,fun g' hg'=>?_,fun k hk=>by rw [h10];exact qn _ hk,(List.nodup_cons.1 hGn).2⟩;injection hg' with hg';subst hg'
   exact ⟨by rw [h10];simp,(List.nodup_cons.1 hGn).1⟩
 rcases zwV (ty:=ty) ht hi hz hzs hb0 S hone (g?:=g?) hbytes hcase with ⟨h0,h1,h2⟩ | ⟨v',w',g',h1,h2⟩
 ·have hys:ys= []:=List.eq_nil_of_length_eq_zero h0;subst hys;exact ⟨v,w,G,[],h2,Moves.refl w,by simp,by rw [qP];exact hv,fun k hk=> .inl ⟨.inl hk,hGl k hk⟩,hGn⟩
 ·obtain ⟨⟨cap,cells,T,r1,r2,r3,r4,r5,r6⟩,hmv⟩:=h2
  have hW: ∃W,Moves w w' W∧(∀k∈W,k∈G)∧(∀k∈W,k∉Fs.flatten)∧((g'∈G∧g'∉Fs.flatten∧g'<w'.heap.size)∨(w.heap.size<=g'∧g'<w'.heap.size)):=by
   rcases hmv with ⟨hg,hmv,hs⟩ | ⟨rfl,hmv,hs⟩
   ·obtain ⟨q1,q2⟩:=hG g' hg;exact ⟨[g'],hmv,fun k hk=>by simp at hk;subst hk;exact q1,fun k hk=>by simp at hk;subst hk;exact q2,.inl ⟨q1,q2,by rw [hs];exact hGl g' q1⟩⟩
   ·exact ⟨[],hmv,by simp,by simp,.inr ⟨ql _,by omega⟩⟩
  obtain ⟨W,hmv',hWG,hWF,hg'⟩:=hW;have hsz:=hmv'.size;have hm: ∀k,N k->memOf w' k=memOf w k:=fun k hk=>hmv'.block k (hN k hk).1 (fun h=>(hN k hk).2 (hWG k h))
  have hmF: ∀k∈Fs.flatten,memOf w' k=memOf w k:=fun k hk=>hmv'.block k (hGl k (hFm k hk)) (fun h=>hWF k h hk)
  have hmH: ∀k∈Hs.flatten,memOf w' k=memOf w k:=fun k hk=>hmv'.block k (hHl k (hHm k hk)) (fun h=>hGH k (hWG k h) (hHm k hk))
  have hgn:g'∉Fs.flatten++Hs.flatten:=by
   intro hk;rcases hg' with ⟨q1,q2,_⟩ | ⟨q1,_⟩
   ·rcases qr.1 hk with hk | hk
    ·exact q2 hk
    ·exact hGH g' q1 (hHm g' hk)
   ·rcases qr.1 hk with hk | hk
    ·have:=hGl g' (hFm g' hk);omega
    ·have:=hHl g' (hHm g' hk);omega
  refine ⟨v',w',g'::(Fs.flatten++Hs.flatten),W,h1,hmv',hWG,.inr ⟨g',cap,cells,T,es++ess,Fs++Hs,by rw [r1];simp,r2,by rw [r3,hes],by simpa using r4,r5,by simp [hesl,hl],by simp [hFsl,hHs],fun j h h' h''=>?_,by rw [List.flatten_append];exact r6,by simp⟩,fun k hk=>?_,List.nodup_cons.2 ⟨hgn,qN.2 ⟨hFn,hHsn,fun p hp q hq e=>?_⟩⟩⟩
  ·simp only [List.getElem_append];by_cases hj:j<xs.length
   ·rw [dif_pos hj,dif_pos (by omega),dif_pos (by omega)];exact RepT.mono (fun b hb=>⟨hb,hm b hb⟩) (fun k hk=>hmF k (List.mem_flatten.2 ⟨_,qi (by omega),hk⟩)) (her j hj (by omega) (by omega))
   ·rw [dif_neg hj,dif_neg (by omega),dif_neg (by omega)];have:=hr (j-xs.length) (by simp at h;omega) (by simp at h';omega) (by simp at h'';omega);simp only [hesl,hFsl];exact RepT.mono (fun b hb=>⟨hb,hm b hb⟩) (fun k hk=>hmH k (List.mem_flatten.2 ⟨_,qi (by simp at h'';omega),hk⟩)) this
  ·rcases qz.1 hk with rfl | hk
   ·rcases hg' with ⟨q1,_,q3⟩ | q
    ·exact .inl ⟨.inl q1,q3⟩
    ·exact .inr q
   ·rcases qr.1 hk with hk | hk
    ·exact .inl ⟨.inl (hFm k hk),Nat.lt_of_lt_of_le (hGl k (hFm k hk)) hsz⟩
    ·exact .inl ⟨.inr (hHm k hk),Nat.lt_of_lt_of_le (hHl k (hHm k hk)) hsz⟩
  ·subst e;exact hGH p (hFm p hp) (hHm p hq)
theorem RepT.own_take {m:Mem} {N:Nat->Prop} {e:Ty} (he:e.isImm=true) {xs:List e.den} {v:Value} {F:List Nat} (h:RepT m N (.own e) xs [v] F) {hi:Nat} (hh:hi<=xs.length):RepT m N (.own e) (xs.take hi) [subV v e.sz 0 hi] F:=by
 rcases h with ⟨a,h1,h2,h3⟩ | ⟨g,cap,c,T,es,Fs,h1,h2,h3,h4,h5,h6,h7,h8,h9,h10⟩
 ·subst h2;have hv:v= .slice a 0 0:=by simpa using h1
  simp at hh;subst hh;exact .inl ⟨a,by rw [hv];simp [subV],by simp,h3⟩
 ·have hv:v= .slice (some ⟨g,0,none⟩) (List.length xs) cap:=by simpa using h1
  have hlt:List.length (xs.take hi)=hi:=by rw [List.length_take];omega
  have hlen: ∀y∈es,y.length=e.sz:=by
   intro y hy;obtain ⟨j,hj,rfl⟩:=qH.1 hy;exact (h8 j (by omega) hj (by omega)).len
  have hFs: ∀l∈Fs,l= []:=by
   intro l hl;obtain ⟨j,hj,rfl⟩:=qH.1 hl;exact RepT.imm he (h8 j (by omega) (by omega) hj)
  have hf0: ∀L:List (List Nat),(∀l∈L,l= [])->L.flatten= []:=by
   intro L hL;apply List.eq_nil_iff_forall_not_mem.2;intro k hk;obtain ⟨l,hl,hk⟩:=List.mem_flatten.1 hk;rw [hL l hl] at hk;simp at hk
  refine .inr ⟨g,cap,c,T,es.take hi,Fs.take hi,?_,h2,h3,by omega,h5,by rw [List.length_take,hlt];omega,by rw [List.length_take,hlt];omega,fun i hi1 hi2 hi3=>?_,?_,?_⟩
  ·rw [hv,hlt];by_cases hc:cap=0<;>simp [subV,hc,Addr.add_none]
  ·have:=h8 i (by omega) (by rw [List.length_take] at hi2;omega) (by rw [List.length_take] at hi3;omega);simpa using this
  ·have e1:=zgJ es hi hlen
   have h12:es.flatten.length<=c.toList.length:=by
    have:=congrArg List.length h9;rw [List.length_take] at this;omega
   rw [<-e1]
   conv=>rhs;rw [<-h9]
   rw [List.take_take,List.length_take]
  ·rw [h10,hf0 Fs hFs,hf0 (Fs.take hi) (fun l hl=>hFs l (List.mem_of_mem_take hl))]
section
variable {E : Env} {O : Oracle E} {X : Ctx} {o : Oper} {st : St} {R : Type} {K : Eff -> Option R} {r : R}
theorem zvy {st':St} {w w':World} {N:Nat->Prop} {hd:Nat->Value} {F:Nat->List Nat} (I:SInv (memOf w) N st'.o hd F w.heap.size) {id ver:Nat} {e:Ty} {xs:List e.den} {v':Value} {G G' W:List Nat} {s0:Sto} {rd:List Nat}
  (hver:(st'.o id).1<ver) (hG: ∀k∈G,k∈F id) (hmv:Moves w w' W) (hW: ∀k∈W,k∈G) (hr:RepT (memOf w') N (.own e) xs [v'] G') (hG': ∀k∈G',(k∈G∧k<w'.heap.size)∨(w.heap.size<=k∧k<w'.heap.size)) (hnd:G'.Nodup):
  ∃s' N' hd' F',Left X st' {v:= .one (.own id ver),s:=s0.set id (ver,.vec e xs),w:= [id],r:=rd} w N hd F v' w' W s' N' hd' F':=by
 have hmN: ∀b,N b->memOf w' b=memOf w b:=fun b hb=>hmv.block b (I.ltN b hb) (fun h=>I.sep id b (hG b (hW b h)) hb)
 have hgo:Goes st'.o (st'.o.set id (ver,.vec e xs)) hd (fun i=>if i=id then v' else hd i):=Goes.set_new id ver _ hver (fun i hi=>by simp [hi]);have hone:=RepT.one' hr v' (by simp)
 refine ⟨st'.o.set id (ver,.vec e xs),N,_,_,fun i hi=>?_,fun i hi=>?_,hmv,fun k hk=>⟨id,hG k (hW k hk)⟩,I.upd (m':=memOf w') (N':=N) (hd':=fun i=>if i=id then v' else hd i) id (ver,.vec e xs) G' hmv.size (fun b hb=>⟨hb,hmN b hb⟩) (fun k hk=>⟨Nat.lt_of_lt_of_le (I.ltN k hk) hmv.size,fun i _ hi=>I.sep i k hi hk,fun h=>?_⟩)
  (fun i hi k hk=>hmv.block k (I.ltF i k hk) (fun h=>hi (I.once i id k hk (hG k (hW k h))))) hnd (fun k hk=>⟨?_,fun i hi h=>?_⟩) hgo (fun i hi=>by simp [hi]) (by simp only [qf];exact hr),fun _ h=>h,hgo,fun _ h=> .inl h,fun i k hk=>?_,?_⟩
 ·simp at hi;subst hi;show _=(s0.set _ _) _;rw [Sto.set_same,Sto.set_same]
 ·simp at hi;exact Sto.set_ne _ _ hi
 ·rcases hG' k h with h' | h'
  ·exact I.sep id k (hG k h'.1) hk
  ·have:=I.ltN k hk;omega
 ·rcases hG' k hk with h' | h'
  ·exact h'.2
  ·exact h'.2
 ·rcases hG' k hk with h' | h'
  ·exact hi (I.once i id k h (hG k h'.1))
  ·have:=I.ltF i k h;omega
 ·by_cases h:i=id
  ·simp only [h,qf] at hk;rcases hG' k hk with h' | h'
   ·exact .inl ⟨id,hG k h'.1⟩
   ·exact .inr h'.1
  ·simp only [h,qe] at hk;exact .inl ⟨i,hk⟩
 ·refine ⟨by simp [Sto.set_same],hone,fun _ _=>by simp⟩
theorem zFw {x:C} {s:Sto} {id v:Nat} {e:Ty} {ys:List e.den} (h:deepOf x s=some (id,v,⟨e,ys⟩)):x= .own id v∧s id=(v,.vec e ys):=by
 unfold deepOf at h;split at h
 ·split at h
  ·rename_i hs;split at h
   ·rename_i hc;have h':=qh h;simp only [qU] at h';obtain ⟨rfl,rfl,h3⟩:=h';injection h3 with h4 h5
    subst h4;obtain rfl:=eq_of_heq h5;obtain ⟨rfl,_⟩:=hc;exact ⟨rfl,hs⟩
   ·cases h
  ·cases h
 ·cases h
theorem zCV {st':St} {w w':World} {N:Nat->Prop} {hd:Nat->Value} {F:Nat->List Nat} (I:SInv (memOf w) N st'.o hd F w.heap.size) {id ver id2 v2:Nat} {e:Ty} {ys zs:List e.den} (hne:id≠id2) (hs2:st'.o id2=(v2,.vec e ys)) {v':Value} {G' W:List Nat} {s0:Sto} {rd:List Nat}
  (hver:(st'.o id).1<ver) (hmv:Moves w w' W) (hW: ∀k∈W,k∈F id) (hr:RepT (memOf w') N (.own e) zs [v'] G') (hG': ∀k∈G',((k∈F id∨k∈F id2)∧k<w'.heap.size)∨(w.heap.size<=k∧k<w'.heap.size)) (hnd:G'.Nodup):
  ∃s' N' hd' F',Left X st' {v:= .one (.own id ver),s:=(s0.set id2 (v2,.ovec e ys)).set id (ver,.vec e zs),w:= [id,id2],r:=rd} w N hd F v' w' W s' N' hd' F':=by
 have hob:=I.obj id2;rw [hs2] at hob;obtain ⟨o1,o2⟩:=zpB I id2 (.ovec e ys) (by rw [hs2];exact fun _=>⟨rfl,rfl,ql _⟩) (by simp [Obj.isB]) (fun s'=>⟨rfl,RepT.own_len hob⟩);have hv2:(st'.o id2).1=v2:=by rw [hs2]
 rw [hv2] at o1 o2;have hmN: ∀b,N b->memOf w' b=memOf w b:=fun b hb=>hmv.block b (I.ltN b hb) (fun h=>I.sep id b (hW b h) hb)
 have hidx:(st'.o.set id2 (v2,.ovec e ys)) id=st'.o id:=Sto.set_ne _ _ hne;have hgo:Goes (st'.o.set id2 (v2,.ovec e ys)) ((st'.o.set id2 (v2,.ovec e ys)).set id (ver,.vec e zs)) hd (fun i=>if i=id then v' else hd i):=Goes.set_new id ver _ (by rw [hidx];exact hver) (fun i hi=>by simp [hi]);have hone:=RepT.one' hr v' (by simp)
 refine ⟨_,N,_,_,fun i hi=>?_,fun i hi=>?_,hmv,fun k hk=>⟨id,hW k hk⟩,o1.upd (m':=memOf w') (N':=N) (hd':=fun i=>if i=id then v' else hd i) id (ver,.vec e zs) G' hmv.size (fun b hb=>⟨hb,hmN b hb⟩) (fun k hk=>⟨Nat.lt_of_lt_of_le (I.ltN k hk) hmv.size,fun i _ hi=>o1.sep i k hi hk,fun h=>?_⟩)
  (fun i hi k hk=>?_) hnd (fun k hk=>⟨?_,fun i hi h=>?_⟩) hgo (fun i hi=>by simp [hi]) (by simp only [qf];exact hr),fun _ h=>h,o2.trans hgo,fun _ h=> .inl h,fun i k hk=>?_,?_⟩
 ·simp only [qz,List.not_mem_nil,or_false] at hi;show _=(Sto.set (Sto.set _ _ _) _ _) i;by_cases h1:i=id
  ·subst h1;rw [Sto.set_same,Sto.set_same]
  ·rw [Sto.set_ne _ _ h1,Sto.set_ne _ _ h1];rcases hi with h | h
   ·exact absurd h h1
   ·rw [h,Sto.set_same,Sto.set_same]
 ·simp only [qz,List.not_mem_nil,or_false,not_or] at hi;rw [Sto.set_ne _ _ hi.1,Sto.set_ne _ _ hi.2]
 ·rcases hG' k h with ⟨h' | h',_⟩ | h'
  ·exact I.sep id k h' hk
  ·exact I.sep id2 k h' hk
  ·have:=I.ltN k hk;omega
 ·by_cases h2:i=id2
  ·simp [h2] at hk
  ·simp only [h2,qe] at hk;exact hmv.block k (I.ltF i k hk) (fun h=>hi (I.once i id k hk (hW k h)))
 ·rcases hG' k hk with ⟨_,h'⟩ | h'
  ·exact h'
  ·exact h'.2
 ·by_cases h2:i=id2
  ·simp [h2] at h
  ·simp only [h2,qe] at h;rcases hG' k hk with ⟨h' | h',_⟩ | h'
   ·exact hi (I.once i id k h h')
   ·exact h2 (I.once i id2 k h h')
   ·have:=I.ltF i k h;omega
 ·by_cases h:i=id
  ·simp only [h,qf] at hk;rcases hG' k hk with ⟨h' | h',_⟩ | h'
   ·exact .inl ⟨id,h'⟩
   ·exact .inl ⟨id2,h'⟩
   ·exact .inr h'.1
  ·simp only [h,qe] at hk;by_cases h2:i=id2
   ·simp [h2] at hk
   ·simp only [h2,qe] at hk;exact .inl ⟨i,hk⟩
 ·refine ⟨by simp [Sto.set_same],hone,fun _ _=>by simp⟩
theorem zFK {ca:Call} {x y:Operand} (ho:o.op= .call ca) (hca:ca.callee= .builtin .append) (hargs:ca.args.toList= [x,y]) (h:exOp E O o st K=some r): ∃e,K e=some r∧Good E X o st e:=by
 have hargs':ca.args= #[x,y]:=by rw [<-Array.toArray_toList (xs:=ca.args),hargs]
 have hx:x∈o.op.operands:=by rw [ho];simp [Op.operands,Call.operands,hca,hargs']
 have hy:y∈o.op.operands:=by rw [ho];simp [Op.operands,Call.operands,hca,hargs']
 simp only [exOp,ho,hca,hargs] at h
 replace h:=zax h
 obtain ⟨c,hc,h⟩:=h
 replace h:=zax h
 obtain ⟨d,hd,h⟩:=h;split at h
 ·rename_i t t' hty;have hty':ca.argTypes= #[t,t']:=by rw [<-Array.toArray_toList (xs:=ca.argTypes),hty]
  split at h
  ·rename_i id2 v2 e ys hdeep;obtain ⟨rfl,hs2⟩:=zFw hdeep;split at h
   ·rename_i htt;subst htt;unfold appendD at h;dsimp only at h;split at h
    ·cases h
    ·rename_i te hte;have hu:=zqQ hte;split at h
     ·rename_i hz;obtain ⟨hz,hb0,hsz,hes0⟩:=hz;obtain ⟨it,z,hi1,hi2,hi3,hi4,hi5⟩:=zjC hz;have hes':e.sz=it.size:=by rw [hes0,hi3]
      have hrunop: ∀a:Act,(execOp a.eval o)=(do let u <-Builtin.append_ #[t',t'] o.type #[a.eval x,a.eval y];pure (.value u)):=by
       intro a;simp [execOp,ho,resolve,hca,hargs',hty',invoke,builtin]
      split at h
      ·split at h
       ·rename_i hnn;split at h
        ·rename_i hroom;refine ⟨_,h,Good.make fun st' he hi a w N hd' F I=>?_⟩;have h1:=I.eval x;rw [he x hx,hc] at h1;have h2:=I.eval y;rw [he y hy,hd] at h2;have hid:st'.o (newId o.dst)=st.o (newId o.dst):=hi _ (.inl (by simp));have hid2:=hi id2 (.inl (by simp));rw [hs2] at hid2;have hob2:=I.s.obj id2;rw [hid2] at hob2;have e2:=RepC.own_hd (m:=memOf w) (N:=N) h2 hid2 rfl;obtain ⟨b,e1⟩:=h1;have hob2':RepT (memOf w) N (.own e) ys [a.eval y] (F id2):=by rw [e2];exact hob2
         obtain ⟨v',w',G',W,hrun,hmv,hW,hr,hG',hnd⟩:=zAe (ty:=o.type) hu hi1 hi2 hi4 (by rw [hi5];exact hb0) hes' (xs:= []) (v:=a.eval x) (G:= []) (.inl ⟨b,by rw [e1],rfl,rfl⟩) hob2' (fun k hk=>⟨I.s.ltN k hk,by simp⟩) (by simp) (fun k hk=>I.s.ltF id2 k hk) List.nodup_nil (I.s.nodup id2) (by simp) (by rw [hi5];simpa using hroom)
         obtain ⟨s',N',hd2,F',L⟩:=zCV (X:=X) I.s (id:=newId o.dst) (ver:=(st.o (newId o.dst)).1+1) (s0:=st.o) (rd:= []) hnn hid2 (by rw [hid];omega) hmv (fun k hk=>absurd (hW k hk) (by simp)) hr (fun k hk=>by
          rcases hG' k hk with ⟨h' | h',h''⟩ | h'
          ·simp at h'
          ·exact .inl ⟨.inr h',h''⟩
          ·exact .inr h') hnd
         exact ⟨v',w',W,s',N',hd2,F',by rw [hrunop];simp [hrun],L⟩
        ·cases h
       ·cases h
      ·rename_i id ver;split at h
       ·rename_i v e' xs hs;split at h
        ·rename_i hcv;obtain ⟨rfl,hnn⟩:=hcv;split at h
         ·rename_i hee;injection hee with hee
          subst hee;split at h
          ·rename_i hroom;refine ⟨_,h,Good.make fun st' he hi a w N hd' F I=>?_⟩;have h1:=I.eval x;rw [he x hx,hc] at h1;have h2:=I.eval y;rw [he y hy,hd] at h2;have hid:=hi id (.inl (by simp));rw [hs] at hid;have hob:=I.s.obj id;rw [hid] at hob;have e1:=RepC.own_hd (m:=memOf w) (N:=N) h1 hid rfl;have hid2:=hi id2 (.inl (by simp));rw [hs2] at hid2;have hob2:=I.s.obj id2;rw [hid2] at hob2;have e2:=RepC.own_hd (m:=memOf w) (N:=N) h2 hid2 rfl;have hob':RepT (memOf w) N (.own e) xs [a.eval x] (F id):=by rw [e1];exact hob
           have hob2':RepT (memOf w) N (.own e) ys [a.eval y] (F id2):=by rw [e2];exact hob2
           obtain ⟨v',w',G',W,hrun,hmv,hW,hr,hG',hnd⟩:=zAe (ty:=o.type) hu hi1 hi2 hi4 (by rw [hi5];exact hb0) hes' hob' hob2' (fun k hk=>⟨I.s.ltN k hk,fun h=>I.s.sep id k h hk⟩) (fun k hk=>I.s.ltF id k hk) (fun k hk=>I.s.ltF id2 k hk) (I.s.nodup id) (I.s.nodup id2) (fun k hk hk2=>hnn (I.s.once id id2 k hk hk2)) (by rw [hi5];exact hroom);obtain ⟨s',N',hd2,F',L⟩:=zCV (X:=X) I.s (id:=id) (ver:=v+1) (s0:=st.o) (rd:= []) hnn hid2 (by rw [hid];exact Nat.lt_succ_self v) hmv hW hr hG' hnd;exact ⟨v',w',W,s',N',hd2,F',by rw [hrunop];simp [hrun],L⟩
          ·cases h
         ·cases h
        ·cases h
       ·cases h
      ·cases h
     ·cases h
   ·cases h
  split at h
  ·rename_i hcond;unfold appendK at h;dsimp only at h;split at h
   ·cases h
   ·rename_i te hte;have hu:=zqQ hte;split at h
    ·rename_i hz;obtain ⟨hz,hb0,hsz⟩:=hz;obtain ⟨it,z,hi1,hi2,hi3,hi4,hi5⟩:=zjC hz
     have hrunop: ∀a:Act,(execOp a.eval o)=(do let u <-Builtin.append_ #[t,t'] o.type #[a.eval x,a.eval y];pure (.value u)):=by
      intro a;simp [execOp,ho,resolve,hca,hargs',hty',invoke,builtin]
     have htys:((∃y,d= .imm .str y)->E.P.underlying t'=some .string)∧((¬ ∃y,d= .imm .str y)-> ∃te,E.P.underlying t'=some (.slice te)):=by
      constructor
      ·rintro ⟨y,rfl⟩
       rcases hcond with ⟨_,h⟩ | ⟨h,_⟩
       ·simp [isStrC] at h
       ·unfold isStrT at h;split at h
        ·assumption
        ·cases h
      ·intro hn;rcases hcond with ⟨rfl,_⟩ | ⟨_,h⟩
       ·exact ⟨te,hu⟩
       ·unfold isStrC at h;split at h
        ·exact absurd ⟨_,rfl⟩ hn
        ·cases h
     split at h
     ·have hS: ∀ {w:World} {v:Value} {N:Nat->Prop} {s:Sto} {hd:Nat->Value},RepC (memOf w) N s hd .e0 v->AppSrc E.P w t' v it.size 0 []:=by
       intro w v N s hd hv;obtain ⟨a,rfl⟩:=hv;refine ⟨.inl (htys.2 (by simp)),fun w'=>by simp [Builtin.lenOf],fun w' _=>?_,by simp⟩
       cases a with
       | none=>simp [Builtin.firstCells]
       | some a=>exact run_firstCells_some w' it.size 0 a 0 0 [] (by simp) (by simp)
      split at h
      ·refine ⟨_,h,zdb hc hx hd hy fun {a w N s' hd F} hm I h1 h2=>⟨a.eval x,?_,h1⟩⟩;obtain ⟨b,e1⟩:=h1;rw [hrunop,e1];simp [zgU hu hi1 (hS h2) (ql 0)]
      ·rename_i id ver;split at h
       ·rename_i v e xs hs;split at h
        ·rename_i hv;subst hv;refine ⟨_,h,zdb hc hx hd hy fun {a w N s' hd F} hm I h1 h2=>⟨a.eval x,?_,h1⟩⟩;have hid:=hm id (by simp);rw [hs] at hid;have hob:=I.obj id;rw [hid] at hob;have e1:=RepC.own_hd h1 hid rfl;rw [hrunop];rcases hob with ⟨b,q1,_⟩ | ⟨g,cap,c,T,es,Fs,q1,_,_,q4,_⟩
         ·have q1':hd id= .slice b 0 0:=by simpa using q1
          rw [e1,q1'];simp [zgU hu hi1 (hS h2) (ql 0)]
         ·have q1':hd id= .slice (some ⟨g,0,none⟩) (List.length xs) cap:=by simpa using q1
          rw [e1,q1'];simp [zgU hu hi1 (hS h2) q4]
        ·cases h
       ·cases h
      ·cases h
     ·replace h:=zLk h
      obtain ⟨e,ys,m,h,hg⟩:=h;split at h
      ·rename_i hc2;obtain ⟨himm,hes⟩:=hc2;have hes':e.sz=it.size:=by rw [hes,hi3]
       split at h
       ·split at h
        ·rename_i hmn;split at h
         ·rename_i hroom;refine ⟨_,h,Good.make fun st' he hi a w N hd F I=>?_⟩;have h1:=I.eval x;rw [he x hx,hc] at h1;have h2:=I.eval y;rw [he y hy, ‹st.eval y=_›] at h2;have hid:st'.o (newId o.dst)=st.o (newId o.dst):=hi _ (.inl (by simp));have S:=hg st'.o (fun i hi'=>hi i (.inr hi')) I.s _ h2 t' htys.1 htys.2 himm;obtain ⟨b,e1⟩:=h1;obtain ⟨v',w',G',W,hrun,hmv,hW,hr,hG',hnd⟩:=zuT (ty:=o.type) himm hu hi1 hi2 hi4 (by rw [hi5];exact hb0) hes' (xs:= []) (v:=a.eval x) (G:= []) (.inl ⟨b,by rw [e1],rfl,rfl⟩) (fun k hk=>⟨I.s.ltN k hk,by simp⟩) S (by rw [hi5];simpa using hroom);obtain ⟨s',N',hd',F',L⟩:=zvy (X:=X) I.s (id:=newId o.dst) (ver:=(st.o (newId o.dst)).1+1) (s0:=st.o) (rd:=m) (G:= []) (by rw [hid];omega) (by simp) hmv hW hr hG' hnd;exact ⟨v',w',W,s',N',hd',F',by rw [hrunop];simp [hrun],L⟩
         ·cases h
        ·cases h
       ·rename_i id ver;split at h
        ·rename_i v e' xs hs;split at h
         ·rename_i hcv;obtain ⟨rfl,hmn⟩:=hcv;split at h
          ·rename_i hee;injection hee with hee
           subst hee;split at h
           ·rename_i hroom;refine ⟨_,h,Good.make fun st' he hi a w N hd F I=>?_⟩;have h1:=I.eval x;rw [he x hx,hc] at h1;have h2:=I.eval y;rw [he y hy, ‹st.eval y=_›] at h2;have hid:=hi id (.inl (by simp));rw [hs] at hid;have hob:=I.s.obj id;rw [hid] at hob;have e1:=RepC.own_hd (m:=memOf w) (N:=N) h1 hid rfl;have S:=hg st'.o (fun i hi'=>hi i (.inr hi')) I.s _ h2 t' htys.1 htys.2 himm;have hob':RepT (memOf w) N (.own e) xs [a.eval x] (F id):=by rw [e1];exact hob
            obtain ⟨v',w',G',W,hrun,hmv,hW,hr,hG',hnd⟩:=zuT (ty:=o.type) himm hu hi1 hi2 hi4 (by rw [hi5];exact hb0) hes' hob' (fun k hk=>⟨I.s.ltN k hk,fun h=>I.s.sep id k h hk⟩) S (by rw [hi5];exact hroom);obtain ⟨s',N',hd',F',L⟩:=zvy (X:=X) I.s (id:=id) (ver:=v+1) (s0:=st.o) (rd:=m) (G:=F id) (by rw [hid];exact Nat.lt_succ_self v) (fun _ h=>h) hmv hW hr hG' hnd;exact ⟨v',w',W,s',N',hd',F',by rw [hrunop];simp [hrun],L⟩
           ·cases h
          ·cases h
         ·cases h
        ·cases h
       ·rename_i id ver lo u;split at h
        ·rename_i v e' xs hs;split at h
         ·rename_i hcv;obtain ⟨rfl,hmn,rfl⟩:=hcv;split at h
          ·rename_i hee;injection hee with hee
           subst hee;split at h
           ·rename_i hroom;refine ⟨_,h,Good.make fun st' he hi a w N hd F I=>?_⟩;have h1:=I.eval x;rw [he x hx,hc] at h1;have h2:=I.eval y;rw [he y hy, ‹st.eval y=_›] at h2;have hid:=hi id (.inl (by simp));rw [hs] at hid;have hob:=I.s.obj id;rw [hid] at hob;obtain ⟨e1,l1,l2⟩:=RepC.sub_hd (m:=memOf w) (N:=N) h1 hid rfl;have l2':u<=List.length xs:=l2;have S:=hg st'.o (fun i hi'=>hi i (.inr hi')) I.s _ h2 t' htys.1 htys.2 himm;have hob':RepT (memOf w) N (.own e) (xs.take u) [a.eval x] (F id):=by rw [e1];exact RepT.own_take himm hob l2'
            have hlu:List.length (xs.take u)=u:=by rw [List.length_take];omega
            obtain ⟨v',w',G',W,hrun,hmv,hW,hr,hG',hnd⟩:=zuT (ty:=o.type) himm hu hi1 hi2 hi4 (by rw [hi5];exact hb0) hes' hob' (fun k hk=>⟨I.s.ltN k hk,fun h=>I.s.sep id k h hk⟩) S (by rw [hi5,hlu];exact hroom);obtain ⟨s',N',hd',F',L⟩:=zvy (X:=X) I.s (id:=id) (ver:=v+1) (s0:=st.o) (rd:=m) (G:=F id) (by rw [hid];exact Nat.lt_succ_self v) (fun _ h=>h) hmv hW hr hG' hnd;exact ⟨v',w',W,s',N',hd',F',by rw [hrunop];simp [hrun],L⟩
           ·cases h
          ·cases h
         ·cases h
        ·cases h
       ·cases h
      ·cases h
    ·cases h
  ·cases h
 ·cases h
end
theorem zDb: ∀(τ:Ty) (x:τ.den) (s s2:Sto) (b:Nat) (M:List Nat),(∀i∈(inj τ x s b).ids,i∈M)->(∀i∈M,s2 i=s i)->
  (inj τ x s2 b).cs=(inj τ x s b).cs∧(inj τ x s2 b).b=(inj τ x s b).b∧(inj τ x s2 b).ids=(inj τ x s b).ids∧ ∀i∈M,(inj τ x s2 b).s i=(inj τ x s b).s i:=by
 intro τ
 induction τ with
 | agg fs ih=>intro x s s2 b M hM hs;exact ih x s s2 b M hM hs
 | cons a r iha ihr=>
  intro x s s2 b M hM hs;have hM': ∀i∈(inj a x.1 s b).ids++(inj r x.2 (inj a x.1 s b).s (inj a x.1 s b).b).ids,i∈M:=hM;obtain ⟨c1,c2,c3,c4⟩:=iha x.1 s s2 b M (fun i hi=>hM' i (qw _ hi)) hs;obtain ⟨d1,d2,d3,d4⟩:=ihr x.2 (inj a x.1 s b).s (inj a x.1 s2 b).s (inj a x.1 s b).b M (fun i hi=>hM' i (qB _ hi)) c4;simp only [inj];rw [c1,c2,c3,d1,d2,d3]
  exact ⟨rfl,rfl,rfl,d4⟩
 | own e _ | map e _ | iter e _ | sb _ _=>
  intro x s s2 b M hM hs;have hb:s2 b=s b:=hs b (hM b (qv ..));simp only [inj,hb]
  exact ⟨trivial,trivial,trivial,fun i hi=>zbb hs _ _ i hi⟩
 | mv e _=>
  intro x s s2 b M hM hs
  match x with
  | none=>exact ⟨rfl,rfl,rfl,hs⟩
  | some (false,_)=>exact ⟨rfl,rfl,rfl,hs⟩
  | some (true,ys)=>
   have hb:s2 b=s b:=hs b (hM b (qv ..));simp only [inj,hb]
   exact ⟨trivial,trivial,trivial,fun i hi=>zbb hs _ _ i hi⟩
 | box e ih=>
  intro x s s2 b M hM hs;have hM': ∀i∈b::(inj e x s (b+1)).ids,i∈M:=hM;obtain ⟨c1,c2,c3,c4⟩:=ih x s s2 (b+1) M (fun i hi=>hM' i (qn _ hi)) hs;have hb:=c4 b (hM' b (qv ..));simp only [inj];rw [c1,c2,c3,hb]
  exact ⟨rfl,rfl,rfl,fun i hi=>zbb c4 _ _ i hi⟩
 | _=>intro x s s2 b M hM hs;exact ⟨rfl,rfl,rfl,hs⟩
theorem zFB: ∀(τs:Ty) (x:τs.den) (s s2:Sto) (b:Nat) (M:List Nat),(∀i∈(injFs τs x s b).ids,i∈M)->(∀i∈M,s2 i=s i)->
  (injFs τs x s2 b).cs=(injFs τs x s b).cs∧(injFs τs x s2 b).b=(injFs τs x s b).b∧(injFs τs x s2 b).ids=(injFs τs x s b).ids∧ ∀i∈M,(injFs τs x s2 b).s i=(injFs τs x s b).s i:=by
 intro τs
 induction τs with
 | cons a r _ ihr=>
  intro x s s2 b M hM hs;have hM': ∀i∈(inj a x.1 s b).ids++(injFs r x.2 (inj a x.1 s b).s (inj a x.1 s b).b).ids,i∈M:=hM;obtain ⟨c1,c2,c3,c4⟩:=zDb a x.1 s s2 b M (fun i hi=>hM' i (qw _ hi)) hs;obtain ⟨d1,d2,d3,d4⟩:=ihr x.2 (inj a x.1 s b).s (inj a x.1 s2 b).s (inj a x.1 s b).b M (fun i hi=>hM' i (qB _ hi)) c4;simp only [injFs];rw [c1,c2,c3,d1,d2,d3]
  exact ⟨rfl,rfl,rfl,d4⟩
 | _=>intro x s s2 b M hM hs;exact ⟨rfl,rfl,rfl,hs⟩
theorem zED: ∀(τ:Ty) (cs:List C) (z:τ.den) (s:Sto) (b:Nat) (l:Inj (List C)),backCs τ cs z s b=some l-> ∀(M:List Nat),(∀i∈l.ids,i∈M)-> ∀s2:Sto,(∀i∈M,s2 i=s i)->
  ∃s3,backCs τ cs z s2 b=some {cs:=l.cs,s:=s3,b:=l.b,ids:=l.ids}∧ ∀i∈M,s3 i=l.s i:=by
 intro τ
 induction τ with
 | agg fs ih=>intro cs z s b l h;exact ih cs z s b l h
 | nil=>intro cs z s b l h M hM s2 hs;obtain rfl:=qh h;exact ⟨s2,rfl,hs⟩
 | cons a r iha ihr=>
  intro cs z s b l h M hM s2 hs;simp only [backCs] at h;split at h
  ·cases h
  ·rename_i p hp;split at h
   ·cases h
   ·rename_i q hq;obtain rfl:=qh h;obtain ⟨t1,e1,g1⟩:=iha cs z.1 s b p hp M (fun i hi=>hM i (qw _ hi)) s2 hs;obtain ⟨t2,e2,g2⟩:=ihr p.cs z.2 p.s p.b q hq M (fun i hi=>hM i (qB _ hi)) t1 g1
    exact ⟨t2,by simp only [backCs,e1,e2],g2⟩
 | own e _=>
  intro cs z s b l h M hM s2 hs;simp only [backCs] at h ⊢;split at h
  ·rename_i id ver r;split at h
   ·rename_i w e' xs hid;split at h
    ·rename_i hc;obtain rfl:=qh h;have h2:s2 id=s id:=hs id (hM id (by simp));rw [h2,hid];simp only [qb hc];exact ⟨_,rfl,fun i hi=>zbb hs _ _ i hi⟩
    ·cases h
   ·cases h
  ·obtain rfl:=qh h;exact ⟨s2,rfl,hs⟩
  ·cases h
 | box e _=>intro cs z s b l h;cases h
 | map _ _ | mv _ _=>
  intro cs z s b l h;simp only [backCs,Ty.isImm] at h
  cases cs<;>simp at h
 | bool | int _ | str | tree | unk | opq | imap _ _ | iter _ _ | optr _ _ | sb _ _ | sl _ _ | ptr _ _ | fn _ _ _=>
  intro cs z s b l h M hM s2 hs
  cases cs with
  | nil=>cases h
  | cons c r=>
   simp only [backCs] at h ⊢;split at h
   ·rename_i hc;obtain rfl:=qh h;exact ⟨s2,by rw [qb hc],hs⟩
   ·cases h
theorem zFE {v:V} {s:Sto} {b:Nat}: ∀(a:Ty) (z:a.den) (l:Inj Unit),back1 v s b a z=some l-> ∀(M:List Nat),(∀i∈l.ids,i∈M)-> ∀s2:Sto,(∀i∈M,s2 i=s i)->
  ∃s3,back1 v s2 b a z=some {cs:=(),s:=s3,b:=l.b,ids:=l.ids}∧ ∀i∈M,s3 i=l.s i:=by
 intro a z l h M hM s2 hs
 cases a with
 | own e=>
  cases v with
  | one c=>
   cases c with
   | own id ver=>
    simp only [back1] at h ⊢;split at h
    ·rename_i w e' xs hid;split at h
     ·rename_i hc;obtain rfl:=qh h;have h2:s2 id=s id:=hs id (hM id (by simp));rw [h2,hid];simp only [qb hc];exact ⟨_,rfl,fun i hi=>zbb hs _ _ i hi⟩
     ·cases h
    ·cases h
   | e0=>
    obtain rfl:=qh h
    exact ⟨s2,rfl,hs⟩
   | _=>cases h
  | _=>cases h
 | box e=>
  cases v with
  | one c=>
   cases c with
   | bp id ver off=>
    cases off with
    | succ _=>cases h
    | zero=>
     simp only [back1] at h ⊢;split at h
     ·rename_i w hid;split at h
      ·rename_i hc;obtain rfl:=qh h;have hM': ∀i∈(inj e z s b).ids++ [id],i∈M:=hM;obtain ⟨c1,c2,c3,c4⟩:=zDb e z s s2 b M (fun i hi=>hM' i (qw _ hi)) hs;have h2:=c4 id (hM' id (by simp));rw [h2,hid];simp only [qb hc,c1,c2,c3];exact ⟨_,rfl,fun i hi=>zbb c4 _ _ i hi⟩
      ·cases h
     ·cases h
   | _=>cases h
  | _=>cases h
 | map e=>
  cases v with
  | one c=>
   cases c with
   | mp id ver=>
    simp only [back1] at h ⊢;split at h
    ·rename_i w hid;split at h
     ·rename_i hc;obtain rfl:=qh h;have h2:s2 id=s id:=hs id (hM id (by simp));rw [h2,hid];simp only [qb hc];exact ⟨_,rfl,fun i hi=>zbb hs _ _ i hi⟩
     ·cases h
    ·cases h
   | _=>cases h
  | _=>cases h
 | sb T te=>
  cases v with
  | one c=>
   cases c with
   | mp id ver=>
    simp only [back1] at h ⊢;split at h
    ·rename_i w hid;split at h
     ·rename_i hc;obtain rfl:=qh h;have h2:s2 id=s id:=hs id (hM id (by simp));rw [h2,hid];simp only [qb hc];exact ⟨_,rfl,fun i hi=>zbb hs _ _ i hi⟩
     ·cases h
    ·cases h
   | _=>cases h
  | _=>cases h
 | agg fs=>
  cases v with
  | agg cs=>
   simp only [back1] at h ⊢;split at h
   ·rename_i s' b' ids hb;obtain rfl:=qh h;obtain ⟨s3,k1,k2⟩:=zED fs cs z s b _ hb M hM s2 hs;exact ⟨s3,by rw [k1],k2⟩
   ·cases h
  | _=>cases h
 | _=>cases h
theorem zGu: ∀(io:List Bool) (τs:Ty) (vs:List V) (z:(ioTy io τs).den) (s:Sto) (b:Nat) (l:Inj Unit),back io τs vs z s b=some l-> ∀(M:List Nat),(∀i∈l.ids,i∈M)-> ∀s2:Sto,(∀i∈M,s2 i=s i)->
  ∃s3,back io τs vs z s2 b=some {cs:=(),s:=s3,b:=l.b,ids:=l.ids}∧ ∀i∈M,s3 i=l.s i:=by
 intro io
 induction io with
 | nil=>
  intro τs vs z s b l h M hM s2 hs
  cases τs with
  | nil=>
   cases vs with
   | nil=>obtain rfl:=qh h;exact ⟨s2,rfl,hs⟩
   | cons _ _=>cases h
  | _=>cases vs<;>cases h
 | cons i io ih=>
  intro τs vs z s b l h M hM s2 hs
  cases τs with
  | cons a r=>
   cases vs with
   | nil=>cases i<;>cases h
   | cons v vs=>
    cases i with
    | false=>exact ih r vs z s b l h M hM s2 hs
    | true=>
     simp only [back] at h ⊢;split at h
     ·rename_i l1 hl1;split at h
      ·rename_i l2 hl2;obtain rfl:=qh h;have hM': ∀i∈l1.ids++l2.ids,i∈M:=hM;obtain ⟨s3,e1,g1⟩:=zFE a z.1 l1 hl1 M (fun i hi=>hM' i (qw _ hi)) s2 hs;obtain ⟨s4,e2,g2⟩:=ih r vs z.2 l1.s l1.b l2 hl2 M (fun i hi=>hM' i (qB _ hi)) s3 g1;rw [e1];simp only [e2];exact ⟨s4,rfl,g2⟩
      ·cases h
     ·cases h
  | _=>cases i<;>cases vs<;>cases h
def retOf:List Value->Value
 | [u]=>u
 | us=> .tuple ⟨us⟩
structure DoneT (τs ρs:Ty) (io:List Bool) (y:ρs.den) (z:(ioTy io τs).den) (us:List Value) (G:List Nat) (N:Nat->Prop) (w:World) (v:Value) (w':World) (N':Nat->Prop) (rs:List Value) (G1 G2:List Nat):Prop where
 mv:Moves w w' G
 up: ∀k,N k->N' k
 new: ∀k,N' k->N k∨k∈G∨w.heap.size<=k
 lt: ∀k,N' k->k<w'.heap.size
 val:v=retOf rs
 rep:RepAs (memOf w') N' ρs y rs G1
 back:RepBack (memOf w') N' io τs z us G2
 nod:(G1++G2).Nodup
 own: ∀k∈G1++G2,k<w'.heap.size∧ ¬N' k∧(k∈G∨w.heap.size<=k)
abbrev Done (E:Env) (f:Nat) (y:(E.rs f).den) (z:(ioTy (E.io f) (E.ps f)).den) (us:List Value) (G:List Nat) (N:Nat->Prop) (w:World) (v:Value) (w':World) (N':Nat->Prop) (rs:List Value) (G1 G2:List Nat):Prop:=DoneT (E.ps f) (E.rs f) (E.io f) y z us G N w v w' N' rs G1 G2
def Post (R:Value->World->Prop):Ending->World->Prop
 | .returned v,w=>R v w
 | _,_=>False
def CloneOK (P:Program) (f:Nat) (t:TypeId):Prop:=
 ∀te,elemP P t=some te-> ∀(w:World) (N:Nat->Prop) (e:Ty) (xs:List e.den) (v:Value),e.isImm=true->e.sz=szP P te->(∀k,N k->k<w.heap.size)->Els (memOf w) N e xs v->xs.length*bytesP P te<=140737488355328->
  Calls P f #[v] w (Post fun v' w'=> ∃G',Moves w w' []∧RepT (memOf w') N (.own e) xs [v'] G'∧(∀k∈G',w.heap.size<=k∧k<w'.heap.size)∧G'.Nodup)
def GrowOK (P:Program) (f:Nat) (t:TypeId):Prop:=
 ∀te,elemP P t=some te-> ∀(w:World) (N:Nat->Prop) (e:Ty) (n:Nat),e.isImm=true->e.sz=szP P te->bytesP P te*n<=140737488355328->
  Calls P f #[.slice none 0 0,.int .i64 n] w (Post fun v' w'=> ∃G',Moves w w' []∧RepT (memOf w') N (.own e) [] [v'] G'∧(∀k∈G',w.heap.size<=k∧k<w'.heap.size)∧G'.Nodup)
def HidSound (E:Env) (C:HOr E):Prop:= ∀(f:Nat) (x:(E.ps f).den) (yz:E.Ret f),C f x=some yz-> ∀(w:World) (N:Nat->Prop) (us:List Value) (G:List Nat),RepAs (memOf w) N (E.ps f) x us G->G.Nodup->(∀k∈G,k<w.heap.size∧ ¬N k)->(∀k,N k->k<w.heap.size)->E.tabs w N->
  Calls E.P (rl f) us.toArray w (Post fun v w'=> ∃N' rs G1 G2,Done E f yz.1 yz.2 us G N w v w' N' rs G1 G2)
def CloneSound (E:Env):Prop:=(∀f t,E.clone f=some t->CloneOK E.P f t)∧ ∀f t,E.grow f=some t->GrowOK E.P f t
def CSound (E:Env) (C:(f:Nat)->(E.ps f).den->Option (E.Ret f)):Prop:=
 CloneSound E∧ ∀(f:Nat) (x:(E.ps f).den) (yz:E.Ret f),C f x=some yz-> ∀(w:World) (N:Nat->Prop) (us:List Value) (G:List Nat),RepAs (memOf w) N (E.ps f) x us G->G.Nodup->(∀k∈G,k<w.heap.size∧ ¬N k)->(∀k,N k->k<w.heap.size)->E.tabs w N->
  Calls E.P (rl f) us.toArray w (Post fun v w'=> ∃N' rs G1 G2,Done E f yz.1 yz.2 us G N w v w' N' rs G1 G2)
def CSoundX (X:Ctx) (E:Env) (O:Oracle E):Prop:=CSound E O.C∧(∀w N F,Fr X w N F->E.tabs w N)∧HidSound E O.H
theorem SInv.widen {m m':Mem} {N N':Nat->Prop} {s:Sto} {hd:Nat->Value} {F:Nat->List Nat} {size size':Nat} (I:SInv m N s hd F size) (hsz:size<=size') (hN: ∀k,N k->N' k∧m' k=m k) (hF: ∀i k,k∈F i->m' k=m k)
  (hN': ∀k,N' k->k<size'∧ ∀i,k∉F i):SInv m' N' s hd F size' where
 obj:=fun i=>ObjRep.goes hN (Goes.refl s hd) (fun k hk=>hF i k hk) (I.obj i)
 once:=I.once
 nodup:=I.nodup
 sep:=fun i k hk hn=>(hN' k hn).2 i hk
 ltF:=fun i k hk=>Nat.lt_of_lt_of_le (I.ltF i k hk) hsz
 ltN:=fun k hk=>(hN' k hk).1
theorem SInv.unlend {m:Mem} {N:Nat->Prop} {s0 s1:Sto} {hd:Nat->Value} {F:Nat->List Nat} {size:Nat} (I:SInv m N s1 hd F size)
  (h: ∀i,(s1 i).2.isL=true->s1 i=s0 i∨ ∃(e:Ty) (xs:List e.den),s1 i=((s0 i).1,.lvec e xs)∧(s0 i).2= .vec e xs):SInv m N (Ev.unlend s0 s1) hd F size∧Goes s1 (Ev.unlend s0 s1) hd hd:=by
 have key: ∀i,(Ev.unlend s0 s1) i=s1 i∨ ∃(v:Nat) (e:Ty) (xs:List e.den),s1 i=(v,.lvec e xs)∧(Ev.unlend s0 s1) i=(v,.vec e xs):=by
  intro i;unfold Ev.unlend;split
  ·rename_i e xs hl;rcases h i (by rw [hl];rfl) with h1 | ⟨e',ys,h1,h2⟩
   ·exact .inl h1.symm
   ·refine .inr ⟨(s0 i).1,e',ys,h1,?_⟩;rw [<-h2]
  ·exact .inl rfl
 have hg:Goes s1 (Ev.unlend s0 s1) hd hd:=by
  refine ⟨fun i=>?_,fun i _ hv=>?_,fun i _ hv=>?_⟩
  ·rcases key i with h | ⟨v,e,xs,h1,h2⟩
   ·rw [h];exact ql _
   ·rw [h1,h2];exact ql _
  ·rcases key i with h | ⟨v,e,xs,h1,h2⟩
   ·rw [h] at hv ⊢; exact ⟨hv,rfl,rfl,ql _⟩
   ·rw [h1,h2];exact ⟨rfl,rfl,rfl,ql _⟩
  ·rcases key i with h | ⟨v,e,xs,h1,h2⟩
   ·rw [h] at hv;exact ⟨hv,rfl⟩
   ·rw [h2] at hv;simp [Obj.isB] at hv
 refine ⟨⟨fun i=>?_,I.once,I.nodup,I.sep,I.ltF,I.ltN⟩,hg⟩;have:=ObjRep.goes (fun b hb=>⟨hb,rfl⟩) hg (fun _ _=>rfl) (I.obj i);rcases key i with h | ⟨v,e,xs,h1,h2⟩
 ·rw [h];exact this
 ·rw [h2];rw [h1] at this;exact this
theorem zGZ {s0 s1:Sto} {i:Nat} (h:s1 i=s0 i):unlend s0 s1 i=s0 i:=by
 unfold unlend;split
 ·rfl
 ·exact h
section
variable {m : Mem} {N : Nat -> Prop} {s : Sto} {hd : Nat -> Value}
theorem zE9: ∀ {τs:Ty} {x:τs.den} {es:List Value},capsOk τs=true->RepT m N τs x es []->RepVs m N s hd (exFs τs x) es
 | .nil,_,es,_,h=>by
  have e:es= []:=h.1
  subst e;trivial
 | .cons a r,x,es,hc,h=>by
  simp only [capsOk,qq,Bool.not_eq_true',beq_iff_eq] at hc;obtain ⟨⟨⟨h1,h2⟩,h3⟩,h4⟩:=hc;obtain ⟨c1,c2,F1,F2,e1,e2,hA,hR⟩:=h;have q1:=RepT.imm h3 hA;subst q1;have q2:F2= []:=by simpa using e2.symm
  subst q2;have hl:=hA.len;rw [h2] at hl
  match c1,hl with
  | [c],_=>
   subst e1;have hx:=ztj (s:=s) (hd:=hd) h3 hA;have hxl:=hx.len;refine ⟨?_,zE9 h4 hR⟩;simp only [h1,V.ofCells]
   match hex:ex a x.1,hxl,hx with
   | [d],_,hx=>exact hx.1
 | .bool,_,_,hc,_ | .int _,_,_,hc,_ | .str,_,_,hc,_ | .sl _,_,_,hc,_ | .own _,_,_,hc,_ | .agg _,_,_,hc,_ | .ptr _,_,_,hc,_ | .box _,_,_,hc,_ | .fn _ _,_,_,hc,_ | .tree,_,_,hc,_ | .unk,_,_,hc,_ | .opq,_,_,hc,_ | .map _,_,_,hc,_ | .mv _,_,_,hc,_ | .imap _,_,_,hc,_ | .iter _,_,_,hc,_ | .optr _,_,_,hc,_ | .sb _ _,_,_,hc,_=>by simp [capsOk] at hc
end
end Go.Proofs.YtchkojfhcdcnmaaGreatMd.Ev
