/- Texts laid together: WAa, WAd, WAe, QI, QJb, WAf, WAg, WAb, WAh; no condition but those that each theorem names. -/
import Derived.Test.YtchkojfhcdcnmaaGreatCkQKa
namespace Go.Proofs.YtchkojfhcdcnmaaGreatCk.Ev
open Go
set_option autoImplicit false
set_option linter.unusedVariables false
set_option linter.unusedSimpArgs false
theorem zFp (n:Int) (t:List Int) (ht:t.length<=1048576): ∀k i c:Nat,i+k=t.length->c<=i->zjm M n c t t.length i=some (.inl (((c+(t.drop i).count n:Nat):Int),())):=by
 intro k
 induction k with
 | zero=>
  intro i c hi hc;obtain rfl:i=t.length:=by omega
  apply zt6;simp only [zlu];rw [qc (by simp),qG]
  simp
 | succ k ih=>
  intro i c hi hc;have h1:i<t.length:=by omega
  apply zt6;simp only [zlu];rw [qb (by simpa using h1),zd h1];simp only [qa];rw [qj h1,List.count_cons];by_cases h:t[i]=n
  ·rw [qb (by simpa using h)];simp only [qa,qd];rw [zb (by omega),zb (by omega),ih (i+1) (c+1) (by omega) (by omega)];simp [h];omega
  ·rw [qc (by simpa using h)];simp only [qa,qd];rw [zb (by omega),ih (i+1) c (by omega) (by omega)];simp [h]
theorem zFH (t:List Int) (n:Int) (ht:t.length<=1048576):zne M t n=some ((((t.count n:Nat):Int),()),()):=by
 apply zCF;have:=zFp n t ht t.length 0 0 (by omega) (by omega);rw [show ((0:Nat):Int)=0 from rfl,qk,qI] at this;simp only [ztJ,this,qa,qd]
theorem zFg (n:Int) (t:List Int) (ht:t.length<=1048576): ∀k i c:Nat,i+k=t.length->c<=i->zhC M n c t t.length i=some (.inl (((c+(t.drop i).count n:Nat):Int),())):=by
 intro k
 induction k with
 | zero=>
  intro i c hi hc;obtain rfl:i=t.length:=by omega
  apply zsc;simp only [zjE];rw [qc (by simp),qG]
  simp
 | succ k ih=>
  intro i c hi hc;have h1:i<t.length:=by omega
  apply zsc;simp only [zjE];rw [qb (by simpa using h1),zd h1];simp only [qa];rw [qj h1,List.count_cons];by_cases h:t[i]=n
  ·rw [qb (by simpa using h)];simp only [qa,qd];rw [zb (by omega),zb (by omega),ih (i+1) (c+1) (by omega) (by omega)];simp [h];omega
  ·rw [qc (by simpa using h)];simp only [qa,qd];rw [zb (by omega),ih (i+1) c (by omega) (by omega)];simp [h]
theorem zGS (t:List Int) (n:Int) (ht:t.length<=1048576):zk4 M t n=some ((((t.count n:Nat):Int),()),()):=by
 apply zAl;have:=zFg n t ht t.length 0 0 (by omega) (by omega);rw [show ((0:Nat):Int)=0 from rfl,qk,qI] at this;simp only [zqT,this,qa,qd]
def wgh (a b:List Int):Bool:=decide (∀v:Nat,v<12->b.count (-1-(v:Int))<=a.count (-1-(v:Int)))
def gtLex:List Int->List Int->Bool
 | x::a,y::b=>if x=y then gtLex a b else decide (0<=x)&&(decide (0<=y)&&decide (y<x))
 | _,_=>false
def gtT (a b:List Int):Bool:=wgh a b&&(decide (b.length<=a.length)&&(decide (b.length<a.length) || gtLex a b))
def cmpK (a b:List Int):Int:=if a=b then 0 else if gtT a b=true then 1 else if gtT b a=true then -1 else 2
theorem zBs (a b:List Int) (ha:a.length<=1048576) (hb:b.length<=1048576): ∀k v:Nat,v+k=12->zfh M a b v=some (if decide (∀w:Nat,w<12->v<=w->b.count (-1-(w:Int))<=a.count (-1-(w:Int)))=true then .inl () else .inr ((false,()),())):=by
 intro k
 induction k with
 | zero=>
  intro v hv;obtain rfl:v=12:=by omega
  apply zpj;simp only [zhk]
  rw [qc (by simp),qb (by simp;omega)]
 | succ k ih=>
  intro v hv;apply zpj;simp only [zhk];rw [qb (by simp;omega),w64 (by omega) (by omega)];simp only [qa,zFH a _ ha,zFH b _ hb];by_cases h:b.count (-1-(v:Int))<=a.count (-1-(v:Int))
  ·rw [qc (by simp;omega),zb (by omega),ih (v+1) (by omega)]
   have:(∀w:Nat,w<12->v+1<=w->b.count (-1-(w:Int))<=a.count (-1-(w:Int)))↔ ∀w:Nat,w<12->v<=w->b.count (-1-(w:Int))<=a.count (-1-(w:Int)):=by
    constructor
    ·intro q w h1 h2;by_cases e:w=v
     ·subst e;exact h
     ·exact q w h1 (by omega)
    ·intro q w h1 h2;exact q w h1 (by omega)
   simp only [this]
  ·rw [qb (by simp;omega),qc (by simp only [qC];intro q;exact h (q v (by omega) (ql _)))]
theorem zHR (a b:List Int) (ha:a.length<=1048576) (hb:b.length<=1048576):zkl M a b=some ((wgh a b,()),()):=by
 apply zyb;have:=zBs a b ha hb 12 0 (by omega);rw [show ((0:Nat):Int)=0 from rfl] at this;simp only [znG,this,qa]
 have e:decide (∀w:Nat,w<12->0<=w->b.count (-1-(w:Int))<=a.count (-1-(w:Int)))=wgh a b:=by
  unfold wgh;simp
 rw [e];cases wgh a b<;>rfl
theorem zBK (a b r:List Int) (ha:a.length<=1048576) (hb:b.length<=1048576) (hr:r.length<=100000) (hv: ∀v∈r,0<=v∧v<=1000): ∀k i:Nat,i+k=r.length->zgD M a b r r.length i=some (if (r.drop i).all (fun v=>decide (b.count (-1-v)<=a.count (-1-v)))=true then .inl () else .inr ((false,()),())):=by
 intro k
 induction k with
 | zero=>
  intro i hi;obtain rfl:i=r.length:=by omega
  apply zqw;simp only [ziP]
  rw [qc (by simp),qb (by simp)]
 | succ k ih=>
  intro i hi;have h1:i<r.length:=by omega
  have h2:=hv _ (qi h1);apply zqw;simp only [ziP];rw [qb (by simpa using h1),qb (by omega),qo,qv h1];simp only [qa];rw [w64 (by omega) (by omega)];simp only [qa,zGS a _ ha,zGS b _ hb];rw [qj h1,qT];by_cases h:b.count (-1-r[i])<=a.count (-1-r[i])
  ·rw [qc (by simp;omega),zb (by omega),ih (i+1) (by omega),qp h,Bool.true_and]
  ·rw [qb (by simp;omega),qr h,Bool.false_and,qc (by simp)]
theorem zH3 (a b:List Int) (ha:a.length<=1048576) (hb:b.length<=4000) (hw: ∀n∈b,-12<=n):zms M a b=some ((wgh a b,()),()):=by
 apply zzQ
 have hm: ∀v,v∈(negs b).foldl putN []↔0<=v∧ -1-v∈b:=by
  intro v;rw [zl7,zyF];simp
 have hl:((negs b).foldl putN []).length<=100000:=by
  have:=znY (negs b) [];have:=zwf b;simp at *; omega
 have hv: ∀v∈(negs b).foldl putN [],0<=v∧v<=1000:=by
  intro v h;have h:=(hm v).1 h;have:=hw _ h.2;omega
 have:=zBK a b _ ha (by omega) hl hv _ 0 (by rw [qI]);rw [show ((0:Nat):Int)=0 from rfl,qk] at this;simp only [zqn,zuJ b hb (fun n hn=>by have:=hw n hn;omega),qa,this]
 have e:((negs b).foldl putN []).all (fun v=>decide (b.count (-1-v)<=a.count (-1-v)))=wgh a b:=by
  unfold wgh;rw [Bool.eq_iff_iff];simp only [List.all_eq_true,qC];constructor
  ·intro q v hv;by_cases h: -1-(v:Int)∈b
   ·exact q v ((hm v).2 ⟨by omega,h⟩)
   ·rw [List.count_eq_zero_of_not_mem h];omega
  ·intro q v hv;have h:=(hm v).1 hv;have:=hw _ h.2;have:=q v.toNat (by omega)
   rwa [show ((v.toNat:Nat):Int)=v by omega] at this
 rw [e];cases wgh a b<;>rfl
theorem zuc (a b:List Int) (hl:a.length=b.length) (ha:a.length<=1048576): ∀k i:Nat,i+k=a.length->zfp M b a a.length i=some (if a.drop i=b.drop i then .inl () else .inr ((gtLex (a.drop i) (b.drop i),()),())):=by
 intro k
 induction k with
 | zero=>
  intro i hi;obtain rfl:i=a.length:=by omega
  apply zpm;simp only [zhb]
  rw [qc (by simp),qG,hl,qG,qb rfl]
 | succ k ih=>
  intro i hi;have h1:i<a.length:=by omega
  have h2:i<b.length:=by omega
  apply zpm;simp only [zhb];rw [qb (by simpa using h1),zd h1,zd h2];simp only [qa];rw [qj h1,qj h2];by_cases he:a[i]=b[i]
  ·rw [qc (by simpa using he),zb (by omega),ih (i+1) (by omega)];by_cases hd:a.drop (i+1)=b.drop (i+1)
   ·rw [qb hd,qb (by rw [he,hd])]
   ·rw [qc hd,qc (fun h=>hd (List.cons.inj h).2),gtLex,qb he]
  ·rw [qb (by simpa using he),qc (fun h=>he (List.cons.inj h).1),gtLex,qc he];by_cases p:0<=a[i]
   ·rw [qb (by simpa using p)];by_cases q:0<=b[i]
    ·rw [qb (by simpa using q)];simp [p,q]
    ·rw [qc (by simpa using q)];simp [q]
   ·rw [qc (by simpa using p)];simp [p]
theorem ztU (a b:List Int) (hl:a.length=b.length) (ha:a.length<=1048576): ∀k i:Nat,i+k=a.length->zfG M a b a.length i=some (if a.drop i=b.drop i then .inl () else .inr ((gtLex (a.drop i) (b.drop i),()),())):=by
 intro k
 induction k with
 | zero=>
  intro i hi;obtain rfl:i=a.length:=by omega
  apply zpt;simp only [zg7]
  rw [qc (by simp),qG,hl,qG,qb rfl]
 | succ k ih=>
  intro i hi;have h1:i<a.length:=by omega
  have h2:i<b.length:=by omega
  apply zpt;simp only [zg7];rw [qb (by simpa using h1),zd h1,zd h2];simp only [qa];rw [qj h1,qj h2];by_cases he:a[i]=b[i]
  ·rw [qc (by simpa using he),zb (by omega),ih (i+1) (by omega)];by_cases hd:a.drop (i+1)=b.drop (i+1)
   ·rw [qb hd,qb (by rw [he,hd])]
   ·rw [qc hd,qc (fun h=>hd (List.cons.inj h).2),gtLex,qb he]
  ·rw [qb (by simpa using he),qc (fun h=>he (List.cons.inj h).1),gtLex,qc he];by_cases p:0<=a[i]
   ·rw [qb (by simpa using p)];by_cases q:0<=b[i]
    ·rw [qb (by simpa using q)];simp [p,q]
    ·rw [qc (by simpa using q)];simp [q]
   ·rw [qc (by simpa using p)];simp [p]
theorem zzO (a:List Int):gtLex a a=false:=by
 induction a with
 | nil=>rfl
 | cons x a ih=>rw [gtLex,qb rfl,ih]
def smT (a:List Int):Prop:=a.length<=4000∧ ∀n∈a,-12<=n
theorem zrr (a b:List Int) (ha:smT a) (hb:smT b):zev M a b=some ((gtT a b,()),()):=by
 have la:=ha.1;have lb:=hb.1;apply zzd;simp only [zo1,zHR a b (by omega) (by omega),qa,gtT];by_cases h1:a.length<b.length
 ·rw [qb (by simpa using h1),qr (by omega)];simp
 ·rw [qc (by simpa using h1),qp (show b.length<=a.length by omega)]
  cases wgh a b with
  | false=>rfl
  | true=>
   rw [qc (by simp)];by_cases h2:b.length<a.length
   ·rw [qb (by simpa using h2),qp h2];rfl
   ·rw [qc (by simpa using h2),qr h2];have:=zuc a b (by omega) (by omega) a.length 0 (by omega);rw [show ((0:Nat):Int)=0 from rfl,qk,qk] at this;rw [this];by_cases e:a=b
    ·rw [qb e,e,zzO];rfl
    ·rw [qc e];rfl
theorem zrk (a b:List Int) (ha:smT a) (hb:smT b):zew M a b=some ((gtT a b,()),()):=by
 have la:=ha.1;have lb:=hb.1;apply zyU;simp only [zoZ,zH3 a b (by omega) (by omega) hb.2,qa,gtT]
 cases wgh a b with
 | false=>rfl
 | true=>
  rw [qc (by simp)];by_cases h1:a.length<b.length
  ·rw [qb (by simpa using h1),qr (by omega)];simp
  ·rw [qc (by simpa using h1),qp (show b.length<=a.length by omega)];by_cases h2:b.length<a.length
   ·rw [qb (by simpa using h2),qp h2];rfl
   ·rw [qc (by simpa using h2),qr h2];have:=ztU a b (by omega) (by omega) a.length 0 (by omega);rw [show ((0:Nat):Int)=0 from rfl,qk,qk] at this;rw [this];by_cases e:a=b
    ·rw [qb e,e,zzO];rfl
    ·rw [qc e];rfl
theorem zDZ (a b:List Int) (hab:a.length=b.length) (ha:a.length<=17592186044416): ∀k i:Nat,i+k=a.length->ziv M a b a.length i=some (if a.drop i=b.drop i then .inl () else .inr ((false,()),())):=by
 intro k
 induction k with
 | zero=>
  intro i hi;obtain rfl:i=a.length:=by omega
  apply zsV;simp only [zkz]
  rw [qc (by simp),qG,hab,qG,qb rfl]
 | succ k ih=>
  intro i hi;have h1:i<a.length:=by omega
  have h2:i<b.length:=by omega
  apply zsV;simp only [zkz];rw [qb (by simpa using h1),zd h1,zd h2];simp only [qa];rw [qj h1,qj h2];by_cases he:a[i]=b[i]
  ·rw [qc (by simpa using he),zb (by omega),ih (i+1) (by omega)];by_cases hd:a.drop (i+1)=b.drop (i+1)
   ·rw [qb hd,qb (by rw [he,hd])]
   ·rw [qc hd,qc (fun h=>hd (List.cons.inj h).2)]
  ·rw [qb (by simpa using he),qc (fun h=>he (List.cons.inj h).1)]
theorem zis (a b:List Int) (ha:a.length<=17592186044416):zao M a b=some ((decide (a=b),()),()):=by
 apply zBr;simp only [zsI];by_cases hl:a.length=b.length
 ·have:=zDZ a b hl ha a.length 0 (by omega);rw [show ((0:Nat):Int)=0 from rfl,qk,qk] at this;rw [qc (by simp [hl]),this];by_cases h:a=b
  ·rw [qb h];simp [h]
  ·rw [qc h];simp [h]
 ·have: ¬a=b:=fun h=>hl (by rw [h])
  rw [qb (by simp;omega)];simp [this]
theorem zAe (a b:List Int) (ha:smT a) (hb:smT b):zi3 M a b=some ((cmpK a b,()),())∧zlC M a b=some ((cmpK a b,()),()):=by
 have la:=ha.1;refine ⟨zwG _ _ ?_,zyD _ _ ?_⟩
 ·simp only [zmj,zkI a b (by omega),zrr a b ha hb,zrr b a hb ha,qa,cmpK,qC];split
  ·rfl
  ·split
   ·rfl
   ·split<;>rfl
 ·simp only [zoO,zis a b (by omega),zrk a b ha hb,zrk b a hb ha,qa,cmpK,qC];split
  ·rfl
  ·split
   ·rfl
   ·split<;>rfl
def tab (f:Nat->List Int):List (List Int):=(List.range 12).map f
theorem zd4 (f:Nat->List Int):(tab f).length=12:=by simp [tab]
theorem zl5 (f:Nat->List Int) {k:Nat} (h:k<12):(tab f)[k]?=some (f k):=by simp [tab,h]
theorem zdT {f g:Nat->List Int} (h: ∀k,k<12->f k=g k):tab f=tab g:=List.map_congr_left fun k hk=>h k (by simpa using hk)
theorem ztt (f:Nat->List Int) {k:Nat} (h:k<12) (y:List Int):(tab f).set k y=tab fun j=>if j=k then y else f j:=by
 apply List.ext_getElem?;intro j;rw [List.getElem?_set,zd4];by_cases e:k=j
 ·subst e;rw [qb rfl,qb h,zl5 _ h,qb rfl]
 ·rw [qc e];by_cases hj:j<12
  ·rw [zl5 _ hj,zl5 _ hj,qc (Ne.symm e)]
  ·rw [List.getElem?_eq_none (by rw [zd4];omega),List.getElem?_eq_none (by rw [zd4];omega)]
theorem zEf:List.replicate 12 ([]:List Int)=tab fun _=> []:=rfl
abbrev tabS (σ:Int->List Int):List (List Int):=tab fun k=>σ (k:Int)
theorem zeb (σ:Int->List Int):SubF (tabS σ) σ:=⟨zd4 _,fun v h0 h1=>by rw [zl5 _ (by omega)];congr 1;rw [show ((v.toNat:Nat):Int)=v by omega]⟩
theorem zIB (f:Nat->List Int) {k:Nat} (h:k<12):idx (tab f) (k:Int)=some (f k):=by
 rw [zJn,zl5 f h]
theorem zxY {f:Nat->List Int} {t:List Int} (h:t∈tab f): ∃k,k<12∧t=f k:=by
 obtain ⟨k,hk,rfl⟩:=qP.1 h;exact ⟨k,by simpa using hk,rfl⟩
theorem zD9 {n:Int} (hn:n<0) (h12: -12<=n) (t:List Int):(List.replicate 12 ([]:List Int)).set (-1-n).toNat t=tabS (oneS n t):=by
 rw [zEf,ztt _ (by omega)];refine zdT fun k hk=>?_
 unfold oneS;by_cases e:k=(-1-n).toNat
 ·rw [qb e,qb (by omega)]
 ·rw [qc e,qc (by omega)]
theorem zvQ {n:Int} {t:List Int} (ht:t.length<=40): ∀v,(oneS n t v).length<=100000:=by
 intro v;unfold oneS;split
 ·omega
 ·simp
def putS (σ:Int->List Int) (n:Int) (t:List Int) (k:Nat):List Int:=if σ (k:Int)≠ [] then apS (oneS n t) (σ (k:Int)) else []
theorem zET (σ:Int->List Int) (n:Int) (t:List Int) (hn:n<0) (h12: -12<=n) (ht:t.length<=40) (hσ: ∀k:Nat,k<12->smT (σ (k:Int))∧(σ (k:Int)).length<=40): ∀(j k:Nat),k+j=12->zhB M (tabS σ) (-1-n) t (tabS (oneS n t)) (tab fun i=>if i<k then putS σ n t i else []) 12 k=some (.inl (-1-n,t,tab (putS σ n t),())):=by
 intro j
 induction j with
 | zero=>
  intro k hk;obtain rfl:k=12:=by omega
  apply zr9;simp only [zjz];rw [qc (by simp)];have:tab (fun i=>if i<12 then putS σ n t i else [])=tab (putS σ n t):=zdT fun i hi=>by rw [qb hi]
  rw [this]
 | succ j ih=>
  intro k hk;have h1:k<12:=by omega
  obtain ⟨s1,s2⟩:=hσ k h1
  have hnext: ∀y,y=putS σ n t k->(tab fun i=>if i<k then putS σ n t i else []).set k y=tab fun i=>if i<k+1 then putS σ n t i else []:=by
   intro y hy;rw [ztt _ h1];refine zdT fun i hi=>?_
   by_cases e:i=k
   ·rw [qb e,qb (by omega),hy,e]
   ·rw [qc e];by_cases q:i<k
    ·rw [qb q,qb (by omega)]
    ·rw [qc q,qc (by omega)]
  apply zr9;simp only [zjz];rw [qb (by simp;omega),zIB _ h1];simp only [qa];by_cases hs:σ (k:Int)= []
  ·rw [qc (by simp [hs])];simp only [qa,qd];rw [zb (by omega),<-ih (k+1) (by omega)];congr 1;refine zdT fun i hi=>?_
   by_cases q:i<k
   ·rw [qb q,qb (by omega)]
   ·rw [qc q];by_cases e:i=k
    ·rw [qb (by omega),e];unfold putS;rw [qc (by simpa using hs)]
    ·rw [qc (by omega)]
  ·have hl:=qZ.2 hs;rw [qb (by simp;omega),zfm _ _ (zeb (oneS n t)) (zvQ ht) _ (by omega) s1.2];simp only [qa];rw [qb (by rw [zd4];omega),qo,zl5 _ h1];simp only [qa,qd];rw [zb (by omega),hnext _ (by unfold putS;rw [qb hs]),ih (k+1) (by omega)]
theorem zCe (σ:Int->List Int) {n:Int} (hn:n<0) (h12: -12<=n) (t:List Int):(tab (putS σ n t)).set (-1-n).toNat t=tabS (bindS σ n t):=by
 rw [ztt _ (by omega)];refine zdT fun k hk=>?_
 unfold bindS putS;by_cases e:k=(-1-n).toNat
 ·rw [qb e,qb (by omega)]
 ·rw [qc e,qc (show ¬((k:Int)= -1-n) by omega)]
theorem zHM (σ:Int->List Int) (n:Int) (t:List Int) (hn:n<0) (h12: -12<=n) (ht:t.length<=40) (hσ: ∀k:Nat,k<12->smT (σ (k:Int))∧(σ (k:Int)).length<=40):zjk M (tabS σ) (-1-n) t=some ((tabS (bindS σ n t),()),()):=by
 have hl:=zET σ n t hn h12 ht hσ 12 0 (by omega);rw [show ((0:Nat):Int)=0 from rfl] at hl;have e0:(tab fun i=>if i<0 then putS σ n t i else [])=List.replicate 12 ([]:List Int):=by rw [zEf];exact zdT fun i _=>by rw [qc (by omega)]
 rw [e0] at hl;apply zBN;simp only [zsv];rw [qb ⟨by decide,by decide,trivial⟩,show (12:Int).toNat=12 from rfl];rw [qb (by simp;omega),qv (by simp;omega)];simp only [qa];rw [qb ⟨by decide,by decide,trivial⟩,zD9 hn h12,show ((List.replicate 12 ([]:List Int)).length:Int)=12 from by simp,hl];simp only [qa,qd,ziu t (by omega)];rw [qb (by rw [zd4];omega),zl5 _ (by omega)];simp only [qa,zCe σ hn h12 t]
theorem zF1 (s:TSign) (x y:List Int) (σ:Int->List Int) (n:Int) (t:List Int) (hn:n<0) (h12: -12<=n) (ht:t.length<=40) (hσ: ∀k:Nat,k<12->smT (σ (k:Int))∧(σ (k:Int)).length<=40): ∀(j k:Nat),k+j=12->(zJ M x y s (tab fun i=>if i<k then putS σ n t i else σ (i:Int)) n t (tabS (oneS n t)) 12 k=some (.inl (x,y,s,tab (putS σ n t),n,t,()))∧ ∀i,k<=i->i<12->(putS σ n t i).length<=40)∨
  (zJ M x y s (tab fun i=>if i<k then putS σ n t i else σ (i:Int)) n t (tabS (oneS n t)) 12 k=some (.inr (([],false,()),()))∧ ∃i,i<12∧40<(putS σ n t i).length):=by
 intro j
 induction j with
 | zero=>
  intro k hk;obtain rfl:k=12:=by omega
  refine .inl ⟨zep _ _ _ _ _ _ _ _ _ ?_,fun i h1 h2=>by omega⟩;simp only [zbT];rw [qc (by simp)];have:tab (fun i=>if i<12 then putS σ n t i else σ (i:Int))=tab (putS σ n t):=zdT fun i hi=>by rw [qb hi]
  rw [this,za]
 | succ j ih=>
  intro k hk;have h1:k<12:=by omega
  obtain ⟨s1,s2⟩:=hσ k h1;have hcur:(tab fun i=>if i<k then putS σ n t i else σ (i:Int))[k]?=some (σ (k:Int)):=by rw [zl5 _ h1,qc (by omega)]
  have hlen:((tab fun i=>if i<k then putS σ n t i else σ (i:Int)).length:Int)=12:=by rw [zd4];rfl
  by_cases hs:σ (k:Int)= []
  ·have hp:putS σ n t k= []:=by unfold putS;rw [qc (by simpa using hs)]
   have e:(tab fun i=>if i<k then putS σ n t i else σ (i:Int))=tab fun i=>if i<k+1 then putS σ n t i else σ (i:Int):=by
    refine zdT fun i hi=>?_
    by_cases q:i<k
    ·rw [qb q,qb (by omega)]
    ·rw [qc q];by_cases e:i=k
     ·rw [qb (by omega),e,hp,hs]
     ·rw [qc (by omega)]
   have step: ∀r,zJ M x y s (tab fun i=>if i<k+1 then putS σ n t i else σ (i:Int)) n t (tabS (oneS n t)) 12 ((k+1:Nat):Int)=some r->zJ M x y s (tab fun i=>if i<k then putS σ n t i else σ (i:Int)) n t (tabS (oneS n t)) 12 k=some r:=by
    intro r hr;apply zep;simp only [zbT];rw [qb (by simp;omega),qb (by rw [hlen];omega),qo,hcur];simp only [qa];rw [qc (by simp [hs])];simp only [qa,qd,za];rw [zb (by omega),e];exact hr
   rcases ih (k+1) (by omega) with ⟨q1,q2⟩ | ⟨q1,q2⟩
   ·refine .inl ⟨step _ q1,fun i hi hi'=>?_⟩;by_cases e:i=k
    ·rw [e,hp];simp
    ·exact q2 i (by omega) hi'
   ·exact .inr ⟨step _ q1,q2⟩
  ·have hl:=qZ.2 hs;have hp:putS σ n t k=apS (oneS n t) (σ (k:Int)):=by unfold putS;rw [qb hs]
   have happ:=zq5 _ _ (zeb (oneS n t)) (zvQ ht) (σ (k:Int)) (by omega) s1.2;rw [<-hp] at happ;by_cases h40:(putS σ n t k).length<=40
   ·rw [qb h40] at happ
    have e:(tab fun i=>if i<k then putS σ n t i else σ (i:Int)).set k (putS σ n t k)=tab fun i=>if i<k+1 then putS σ n t i else σ (i:Int):=by
     rw [ztt _ h1];refine zdT fun i hi=>?_
     by_cases e:i=k
     ·rw [qb e,qb (by omega),e]
     ·rw [qc e];by_cases q:i<k
      ·rw [qb q,qb (by omega)]
      ·rw [qc q,qc (by omega)]
    have step: ∀r,zJ M x y s (tab fun i=>if i<k+1 then putS σ n t i else σ (i:Int)) n t (tabS (oneS n t)) 12 ((k+1:Nat):Int)=some r->zJ M x y s (tab fun i=>if i<k then putS σ n t i else σ (i:Int)) n t (tabS (oneS n t)) 12 k=some r:=by
     intro r hr;apply zep;simp only [zbT];rw [qb (by simp;omega),qb (by rw [hlen];omega),qo,hcur];simp only [qa];rw [qb (by simp;omega),happ];simp only [qa];rw [qb (by rw [hlen];omega)]
     try simp only [qa]
     rw [qc (by simp)];simp only [qa,qd,za];rw [zb (by omega),e];exact hr
    rcases ih (k+1) (by omega) with ⟨q1,q2⟩ | ⟨q1,q2⟩
    ·refine .inl ⟨step _ q1,fun i hi hi'=>?_⟩;by_cases e:i=k
     ·rw [e];exact h40
     ·exact q2 i (by omega) hi'
    ·exact .inr ⟨step _ q1,q2⟩
   ·rw [qc h40] at happ;refine .inr ⟨zep _ _ _ _ _ _ _ _ _ ?_,k,h1,by omega⟩;simp only [zbT];rw [qb (by simp;omega),qb (by rw [hlen];omega),qo,hcur];simp only [qa];rw [qb (by simp;omega),happ];simp only [qa];rw [qb (by rw [hlen];omega)]
    try simp only [qa]
    rw [qb (by simp)];rfl
theorem zDv (s:TSign) (hg:gS s.1=true) (x y:List Int) (l:List (List Int)) (hl:l.length<=100) (hx: ∀t∈l,t.length<=1048576): ∀k i:Nat,i+k=l.length->zfO M x y s l l.length i=some (if (l.drop i).all (fun t=>t.isEmpty || isT s.1 t)=true then .inl (x,y,s,()) else .inr ((false,()),())):=by
 intro k
 induction k with
 | zero=>
  intro i hi;obtain rfl:i=l.length:=by omega
  apply zrX;simp only [zjp];rw [qc (by simp)]
  simp
 | succ k ih=>
  intro i hi;have h1:i<l.length:=by omega
  have h2:=hx _ (qi h1);apply zrX;simp only [zjp];rw [qb (by simpa using h1),zd h1,zb (by omega)];simp only [qa,za,ih (i+1) (by omega)];rw [qj h1,qT];by_cases he:l[i]= []
  ·rw [qc (by simp [he])];simp [he]
  ·have hp:=qZ.2 he;rw [qb (by simp;omega),zuj s hg _ h2];simp only [qa]
   have:l[i].isEmpty=false:=by cases h:l[i] with
    | nil=>exact absurd h he
    | cons _ _=>rfl
   rw [this,Bool.false_or]
   cases isT s.1 l[i] with
   | false=>rfl
   | true=>simp
theorem zA9 (s:TSign) (hg:gS s.1=true) (l:List (List Int)) (hl:l.length<=100) (hx: ∀t∈l,t.length<=1048576) (x y:List Int) (lx:x.length<=1048576) (ly:y.length<=1048576):zkK M s l x y=some ((l.all (fun t=>t.isEmpty || isT s.1 t)&&(isT s.1 x&&isT s.1 y),()),()):=by
 apply zAz;have:=zDv s hg x y l hl hx l.length 0 (by omega);rw [show ((0:Nat):Int)=0 from rfl,qk] at this;simp only [zrf,za,this,qa]
 cases l.all fun t=>t.isEmpty || isT s.1 t with
 | false=>rfl
 | true=>
  simp only [qf,qd,za,zuj s hg x lx,zuj s hg y ly,qa];cases isT s.1 x<;>rfl
theorem zHg (a b:List Int) (s:TSign) (f:List (List Int)) (x y:List Int) (hx:x.length<=1048576): ∀k i:Nat,i+k=lcp x y->zf2 M a b s f x y i=some (.inl (a,b,s,f,x,y,(lcp x y:Int),())):=by
 intro k;have hle:=zzA x y
 induction k with
 | zero=>
  intro i hi;obtain rfl:i=lcp x y:=by omega
  apply zqf;simp only [zhY,za];by_cases h1:lcp x y<x.length
  ·rw [qb (by simpa using h1)];by_cases h2:lcp x y<y.length
   ·rw [qb (by simpa using h2),qb (by omega),qo,qv h1];simp only [qa];rw [qb (by omega),qv h2];simp only [qa];rw [qc (by simpa using zzU x y h1 h2)]
   ·rw [qc (by simpa using h2)]
  ·rw [qc (by simpa using h1)]
 | succ k ih=>
  intro i hi;have h1:i<x.length:=by omega
  have h2:i<y.length:=by omega
  have he:=zAm x y i (by omega);rw [qv h1,qv h2] at he;apply zqf;simp only [zhY,za];rw [qb (by simpa using h1),qb (by simpa using h2),qb (by omega),qo,qv h1];simp only [qa];rw [qb (by omega),qv h2];simp only [qa];rw [qb (by simpa using qh he),zb (by omega)];exact ih (i+1) (by omega)
theorem zG4 (s:TSign) (f:List (List Int)) (x y:List Int) (hx:x.length<=1048576): ∀k i:Nat,i+k=lcp x y->zeE M x y s f i=some (.inl (x,y,s,f,(lcp x y:Int),())):=by
 intro k;have hle:=zzA x y
 induction k with
 | zero=>
  intro i hi;obtain rfl:i=lcp x y:=by omega
  apply znW;simp only [zgn,za];by_cases h1:lcp x y<x.length
  ·rw [qb (by simpa using h1)];by_cases h2:lcp x y<y.length
   ·rw [qb (by simpa using h2),zd h1,zd h2];simp only [qa];rw [qc (by simpa using zzU x y h1 h2)]
   ·rw [qc (by simpa using h2)]
  ·rw [qc (by simpa using h1)]
 | succ k ih=>
  intro i hi;have h1:i<x.length:=by omega
  have h2:i<y.length:=by omega
  have he:=zAm x y i (by omega);rw [qv h1,qv h2] at he;apply znW;simp only [zgn,za];rw [qb (by simpa using h1),qb (by simpa using h2),zd h1,zd h2];simp only [qa];rw [qb (by simpa using qh he),zb (by omega)];exact ih (i+1) (by omega)
theorem zrG {a:List Int}: ∀(t:List Int) (k:Int),sE a k t=some []-> ∀n∈t,-12<=n∧n<a.length
 | [],_,_,n,hn=>by cases hn
 | m::t,k,h,n,hn=>by
  simp only [sE] at h;split at h
  ·cases h
  ·split at h
   ·cases h
   ·rename_i hb;unfold badN at hb;rcases qA.1 hn with rfl | hn
    ·omega
    ·exact zrG t _ h n hn
theorem ze {a t:List Int}:isT a t=true↔t.length<=40∧Tm a t:=by simp [isT]
theorem zbp {a t:List Int} (h:isT a t=true):smT t:=by
 obtain ⟨h1,h2⟩:=ze.1 h;exact ⟨by omega,fun n hn=>(zrG t 1 h2 n hn).1⟩
def okU (a:List Int) (σ:Int->List Int):Prop:=(∀v,σ v≠ []->isT a (σ v)=true∧0<=v∧v<=11)∧ ∀u,Free σ (σ u)
theorem okU.sm {a:List Int} {σ:Int->List Int} (h:okU a σ) (k:Nat):smT (σ (k:Int))∧(σ (k:Int)).length<=40:=by
 by_cases e:σ (k:Int)= []
 ·rw [e];exact ⟨⟨by simp,by simp⟩,by simp⟩
 ·have:=(h.1 _ e).1;exact ⟨zbp this,(ze.1 this).1⟩
theorem okU.len {a:List Int} {σ:Int->List Int} (h:okU a σ) (v:Int):(σ v).length<=40:=by
 by_cases e:σ v= []
 ·rw [e];simp
 ·exact (ze.1 (h.1 _ e).1).1
theorem Free.apS {σ:Int->List Int} (hi: ∀u,Free σ (σ u)): ∀T:List Int,Free σ (apS σ T)
 | [],m,hm,_=>by cases hm
 | n::T,m,hm,h0=>by
  rw [zdO,qt] at hm;rcases hm with hm | hm
  ·by_cases hn:n<0∧σ (-1-n)≠ []
   ·rw [zjY hn.1 hn.2] at hm;exact hi _ m hm h0
   ·have hr:rp σ n= [n]:=by
     by_cases q:n<0
     ·exact zo7 (by
       by_cases e:σ (-1-n)= []
       ·exact e
       ·exact absurd ⟨q,e⟩ hn)
     ·exact zod (by omega)
    rw [hr,qM] at hm;subst hm;by_cases e:σ (-1-m)= []
    ·exact e
    ·exact absurd ⟨h0,e⟩ hn
  ·exact Free.apS hi T m hm h0
noncomputable def contI (x y:List Int) (s:TSign) (f:List (List Int)) (n:Int) (t:List Int):Option (Unit⊕((List (List Int))×Bool×Unit)×Unit):=((zbr M t n).bind fun r35=>(if r35.1.1=true then (some (.inr (([],false,()),()))) else (if 0<=(12:Int)∧((24:Nat):Int)*(12:Int)<=140737488355328∧(12:Int)=(12:Int) then (if 0<=(IntKind.i64.wrap ((-1:Int)-n))∧(IntKind.i64.wrap ((-1:Int)-n))<(List.length (List.replicate (Int.toNat (12:Int)) ([]:List Int)):Int) then (((List.replicate (Int.toNat (12:Int)) ([]:List Int))[(Int.toNat (IntKind.i64.wrap ((-1:Int)-n)))]?).bind fun x36=>((zck M ((List.replicate (Int.toNat (12:Int)) ([]:List Int)).set (Int.toNat (IntKind.i64.wrap ((-1:Int)-n))) t) x).bind fun r37=>((zck M ((List.replicate (Int.toNat (12:Int)) ([]:List Int)).set (Int.toNat (IntKind.i64.wrap ((-1:Int)-n))) t) y).bind fun r38=>(if (!r37.1.2.1)=true then (some (.inr (([],false,()),()))) else (if (!r38.1.2.1)=true then (some (.inr (([],false,()),()))) else ((zJ M r37.1.1 r38.1.1 s f n t ((List.replicate (Int.toNat (12:Int)) ([]:List Int)).set (Int.toNat (IntKind.i64.wrap ((-1:Int)-n))) t) (List.length f:Int) (0:Int)).bind (Sum.elim (fun y39=>(if List.length y39.2.2.2.2.2.1*8<=140737488355328 then (if 0<=(IntKind.i64.wrap ((-1:Int)-y39.2.2.2.2.1))∧(IntKind.i64.wrap ((-1:Int)-y39.2.2.2.2.1))<(List.length y39.2.2.2.1:Int) then ((y39.2.2.2.1[(Int.toNat (IntKind.i64.wrap ((-1:Int)-y39.2.2.2.2.1)))]?).bind fun x41=>(za6 M y39.1 y39.2.1 (y39.2.2.1.1,()) (y39.2.2.2.1.set (Int.toNat (IntKind.i64.wrap ((-1:Int)-y39.2.2.2.2.1))) y39.2.2.2.2.2.1))) else none) else none)) (fun r40=>(some (.inr r40)))))))))) else none) else none)))
noncomputable def contS (a b:List Int) (s:TSign) (f:List (List Int)) (v:Int) (t:List Int):Option (Unit⊕((List (List Int))×Bool×Unit)×Unit):=((zfz M t (IntKind.i64.wrap ((-1:Int)-v))).bind fun r10=>(if r10.1.1=true then (some (.inr (([],false,()),()))) else ((zjk M f v t).bind fun r11=>((zA M r11.1.1 a).bind fun r12=>((zA M r11.1.1 b).bind fun r13=>(za3 M a b s r11.1.1 r12.1.1 r13.1.1))))))
def goodU (a a0 b0:List Int) (r:((List (List Int))×Bool×Unit)×Unit):Prop:=r.1.2.1=true-> ∃τ,okU a τ∧r.1.1=tabS τ∧apS τ a0=apS τ b0∧(apS τ a0).length<=40
def failU:((List (List Int))×Bool×Unit)×Unit:=(([],false,()),())
theorem zpw (a a0 b0:List Int):goodU a a0 b0 failU:=fun h=>by cases h
section
variable (s : TSign) (hg : gS s.1 = true) (a0 b0 : List Int) (ha : isT s.1 a0 = true) (hb : isT s.1 b0 = true)
include hg ha hb
omit ha hb in
theorem zAE (τ:Int->List Int) (hl: ∀v,(τ v).length<=100000) (x y:List Int) (lx:x.length<=100000) (ly:y.length<=100000) (h:40<x.length∨40<y.length∨ ∃k:Nat,k<12∧40<(τ (k:Int)).length):za3 M a0 b0 s (tabS τ) x y=some (.inr failU):=by
 have hs:=zA9 s hg (tabS τ) (by rw [zd4];omega) (fun t ht=>by obtain ⟨k,_,rfl⟩:=zxY ht;have:=hl (k:Int);omega) x y (by omega) (by omega)
 have hf:((tabS τ).all (fun t=>t.isEmpty || isT s.1 t)&&(isT s.1 x&&isT s.1 y))=false:=by
  have ne: ∀z:List Int,40<z.length->isT s.1 z=false:=fun z hz=>by
   cases e:isT s.1 z with
   | false=>rfl
   | true=>have:=(ze.1 e).1;omega
  rcases h with h | h | ⟨k,hk,h⟩
  ·rw [ne _ h];simp
  ·rw [ne _ h];simp
  ·have:(tabS τ).all (fun t=>t.isEmpty || isT s.1 t)=false:=by
    rw [List.all_eq_false];refine ⟨τ (k:Int),qP.2 ⟨k,by simpa using hk,rfl⟩,?_⟩;rw [ne _ h]
    cases e:τ (k:Int) with
    | nil=>rw [e] at h;simp at h
    | cons _ _=>simp
   rw [this];rfl
 rw [hf] at hs;apply zdr;simp only [zbU,za,hs,qa];rfl
theorem zIA (σ:Int->List Int) (hσ:okU s.1 σ) (hx:(apS σ a0).length<=40) (hy:(apS σ b0).length<=40)
  (ih: ∀τ,okU s.1 τ->nbound σ<nbound τ->(apS τ a0).length<=40->(apS τ b0).length<=40-> ∃r,za6 M (apS τ a0) (apS τ b0) s (tabS τ)=some (.inr r)∧za3 M a0 b0 s (tabS τ) (apS τ a0) (apS τ b0)=some (.inr r)∧goodU s.1 a0 b0 r)
  (n:Int) (t:List Int) (hn:n<0) (h12: -12<=n) (ht:isT s.1 t=true) (hft:Free σ t) (hb0:σ (-1-n)= []):
  ∃r,contI (apS σ a0) (apS σ b0) s (tabS σ) n t=some (.inr r)∧contS a0 b0 s (tabS σ) (-1-n) t=some (.inr r)∧goodU s.1 a0 b0 r:=by
 obtain ⟨t1,t2⟩:=ze.1 ht;obtain ⟨a1,a2⟩:=ze.1 ha;obtain ⟨b1,b2⟩:=ze.1 hb;have tne:t≠ []:=qZ.1 (Tm.pos t2);have hw:IntKind.i64.wrap (-1-n)= -1-n:=w64 (by omega) (by omega);have hw2:IntKind.i64.wrap (-1-(-1-n))=n:=by rw [w64 (by omega) (by omega)];omega
 by_cases hin:n∈t
 ·refine ⟨failU,?_,?_,zpw _ _ _⟩
  ·simp only [contI,zti t n (by omega),qp hin,qa];rfl
  ·simp only [contS,hw2,zDl t n (by omega),qp hin,qa];rfl
 ·let τ:=bindS σ n t
  have hTσ: ∀v,σ v≠ []->Tm s.1 (σ v):=fun v h=>(ze.1 (hσ.1 v h).1).2
  have hTτ: ∀v,τ v≠ []->Tm s.1 (τ v):=zHP hg hTσ t2
  have l60: ∀v,(oneS n t v).length<=60:=fun v=>by
   unfold oneS;split
   ·omega
   ·simp
  have lτ: ∀v,(τ v).length<=100000:=by
   intro v;show (bindS σ n t v).length<=100000;unfold bindS;split
   ·omega
   ·split
    ·have:=zji l60 (σ v);have:=hσ.len v;omega
    ·simp
  have smx:smT (apS σ a0):=⟨by omega,fun m hm=>(zrG _ 1 (zjV hg hTσ a2) m hm).1⟩;have smy:smT (apS σ b0):=⟨by omega,fun m hm=>(zrG _ 1 (zjV hg hTσ b2) m hm).1⟩;have ex:apS τ a0=apS (oneS n t) (apS σ a0):=zy9 hn tne hb0 a0;have ey:apS τ b0=apS (oneS n t) (apS σ b0):=zy9 hn tne hb0 b0;have lx:(apS τ a0).length<=100000:=by rw [ex];have:=zji l60 (apS σ a0);omega
  have ly:(apS τ b0).length<=100000:=by rw [ey];have:=zji l60 (apS σ b0);omega
  have bnd:=zHM σ n t hn h12 t1 (fun k _=>hσ.sm k);have apa:=zfm _ _ (zeb τ) lτ a0 (by omega) (zbp ha).2;have apb:=zfm _ _ (zeb τ) lτ b0 (by omega) (zbp hb).2
  have hS:contS a0 b0 s (tabS σ) (-1-n) t=za3 M a0 b0 s (tabS τ) (apS τ a0) (apS τ b0):=by
   simp only [contS,hw2,zDl t n (by omega),qr hin,qg,qe,bnd,qa];rw [apa];simp only [qa];rw [apb];rfl
  have aI:=zq5 _ _ (zeb (oneS n t)) (zvQ t1) (apS σ a0) (by omega) smx.2;have bI:=zq5 _ _ (zeb (oneS n t)) (zvQ t1) (apS σ b0) (by omega) smy.2;rw [<-ex] at aI;rw [<-ey] at bI;have lp:=zF1 s (apS τ a0) (apS τ b0) σ n t hn h12 t1 (fun k _=>hσ.sm k) 12 0 (by omega);have e0:(tab fun i=>if i<0 then putS σ n t i else σ (i:Int))=tabS σ:=zdT fun i _=>by rw [qc (by omega)]
  rw [e0,show ((0:Nat):Int)=0 from rfl] at lp;have hlen:((tabS σ).length:Int)=12:=by rw [zd4];rfl
  have headI: ∀r,(zck M (tabS (oneS n t)) (apS σ a0)).bind (fun r37=>(zck M (tabS (oneS n t)) (apS σ b0)).bind fun r38=>if (!r37.1.2.1)=true then some (.inr (([],false,()),())) else if (!r38.1.2.1)=true then some (.inr (([],false,()),())) else (zJ M r37.1.1 r38.1.1 s (tabS σ) n t (tabS (oneS n t)) 12 0).bind (Sum.elim (fun y39=>if y39.2.2.2.2.2.1.length*8<=140737488355328 then if 0<=IntKind.i64.wrap (-1-y39.2.2.2.2.1)∧IntKind.i64.wrap (-1-y39.2.2.2.2.1)<(y39.2.2.2.1.length:Int) then (y39.2.2.2.1[(IntKind.i64.wrap (-1-y39.2.2.2.2.1)).toNat]?).bind fun x41=>za6 M y39.1 y39.2.1 (y39.2.2.1.1,()) (y39.2.2.2.1.set (IntKind.i64.wrap (-1-y39.2.2.2.2.1)).toNat y39.2.2.2.2.2.1) else none else none) fun r40=>some (.inr r40)))=some (.inr r)->contI (apS σ a0) (apS σ b0) s (tabS σ) n t=some (.inr r):=by
   intro r hr;simp only [contI,zti t n (by omega),qr hin,qg,qe,qa,hw];rw [qb ⟨by decide,by decide,trivial⟩,show (12:Int).toNat=12 from rfl,qb (by simp;omega),qv (by simp;omega)];simp only [qa];rw [zD9 hn h12,hlen];exact hr
  by_cases bx:(apS τ a0).length<=40
  ·rw [qb bx] at aI;by_cases bY:(apS τ b0).length<=40
   ·rw [qb bY] at bI;rcases lp with ⟨q1,q2⟩ | ⟨q1,k,k1,k2⟩
    ·have hok:okU s.1 τ:=by
      refine ⟨fun v hv=>?_,zFP hn tne hσ.2 hft hin⟩
      have hdom:0<=v∧v<=11:=by
       by_cases e:v= -1-n
       ·omega
       ·by_cases q:σ v= []
        ·refine absurd ?_ hv;show bindS σ n t v= [];unfold bindS;rw [qc e,qc (by simpa using q)]
        ·exact (hσ.1 v q).2
      refine ⟨ze.2 ⟨?_,hTτ v hv⟩,hdom⟩;show (bindS σ n t v).length<=40;by_cases e:v= -1-n
      ·unfold bindS;rw [qb e];exact t1
      ·have:=q2 v.toNat (Nat.zero_le _) (by omega);unfold putS at this;rw [show ((v.toNat:Nat):Int)=v by omega] at this;unfold bindS;rw [qc e];exact this
     obtain ⟨r,r1,r2,r3⟩:=ih τ hok (zDH hn h12 tne hb0) bx bY;refine ⟨r,headI r ?_,by rw [hS];exact r2,r3⟩;rw [aI];simp only [qa];rw [bI];simp only [qa,qn,qg,qe,q1,qd,za,hw];rw [qb (by omega),qb (by rw [zd4];omega),zl5 _ (by omega)];simp only [qa,zCe σ hn h12 t];exact r1
    ·refine ⟨failU,headI _ ?_,?_,zpw _ _ _⟩
     ·rw [aI];simp only [qa];rw [bI];simp only [qa,qn,qg,qe,q1,qF];rfl
     ·rw [hS];refine zAE s hg a0 b0 τ lτ _ _ lx ly (.inr (.inr ⟨k,k1,?_⟩));show 40<(bindS σ n t (k:Int)).length;have hk2:=k2;unfold putS at hk2;by_cases e:(k:Int)= -1-n
      ·exfalso;rw [qc (by rw [e,hb0];simp)] at hk2;simp at hk2
      ·unfold bindS;rw [qc e];exact hk2
   ·rw [qc bY] at bI;refine ⟨failU,headI _ ?_,by rw [hS];exact zAE s hg a0 b0 τ lτ _ _ lx ly (.inr (.inl (by omega))),zpw _ _ _⟩;rw [aI];simp only [qa];rw [bI];rfl
  ·rw [qc bx] at aI;refine ⟨failU,headI _ ?_,by rw [hS];exact zAE s hg a0 b0 τ lτ _ _ lx ly (.inl (by omega)),zpw _ _ _⟩;rw [aI];simp only [qa];rw [bI];split<;>rfl
theorem zCk (σ:Int->List Int) (hσ:okU s.1 σ) (hx:(apS σ a0).length<=40) (hy:(apS σ b0).length<=40)
  (ih: ∀τ,okU s.1 τ->nbound σ<nbound τ->(apS τ a0).length<=40->(apS τ b0).length<=40-> ∃r,za6 M (apS τ a0) (apS τ b0) s (tabS τ)=some (.inr r)∧za3 M a0 b0 s (tabS τ) (apS τ a0) (apS τ b0)=some (.inr r)∧goodU s.1 a0 b0 r):
  ∃r,za6 M (apS σ a0) (apS σ b0) s (tabS σ)=some (.inr r)∧za3 M a0 b0 s (tabS σ) (apS σ a0) (apS σ b0)=some (.inr r)∧goodU s.1 a0 b0 r:=by
 have step:=zIA s hg a0 b0 ha hb σ hσ hx hy ih;obtain ⟨a1,a2⟩:=ze.1 ha;obtain ⟨b1,b2⟩:=ze.1 hb;have hTσ: ∀v,σ v≠ []->Tm s.1 (σ v):=fun v h=>(ze.1 (hσ.1 v h).1).2
 have tx:Tm s.1 (apS σ a0):=zjV hg hTσ a2;have ty:Tm s.1 (apS σ b0):=zjV hg hTσ b2;have fx:Free σ (apS σ a0):=Free.apS hσ.2 a0;have fy:Free σ (apS σ b0):=Free.apS hσ.2 b0;generalize hX:apS σ a0=x at *;generalize hY:apS σ b0=y at*
 have hsz:zkK M s (tabS σ) x y=some ((true,()),()):=by
  rw [zA9 s hg (tabS σ) (by rw [zd4];omega) (fun t ht=>by obtain ⟨k,_,rfl⟩:=zxY ht;have:=hσ.len (k:Int);omega) x y (by omega) (by omega),ze.2 ⟨hx,tx⟩,ze.2 ⟨hy,ty⟩]
  have:(tabS σ).all (fun t=>t.isEmpty || isT s.1 t)=true:=by
   rw [List.all_eq_true];intro t ht;obtain ⟨k,_,rfl⟩:=zxY ht;by_cases e:σ (k:Int)= []
   ·rw [e];rfl
   ·rw [(hσ.1 _ e).1];simp
  rw [this];rfl
 have hsl:s.1.length<=10:=by
  have hg':=hg;simp only [gS,qq,qC] at hg';exact hg'.2.1
 have alS:=zHg a0 b0 s (tabS σ) x y (by omega) (lcp x y) 0 (by omega);have alI:=zG4 s (tabS σ) x y (by omega) (lcp x y) 0 (by omega);rw [show ((0:Nat):Int)=0 from rfl] at alS alI;have hle:=zzA x y;by_cases h1:lcp x y=x.length
 ·have exy:=zEe hg tx ty (.inl h1);refine ⟨((tabS σ,true,()),()),zdd _ _ _ _ ?_,zdr _ _ _ _ _ _ ?_,fun _=>⟨σ,hσ,rfl,by rw [hX,hY];exact exy,by rw [hX];exact hx⟩⟩
  ·simp only [zbF,za,alI,qa,qd];rw [qb (by simp [h1])]
  ·simp only [zbU,za,hsz,qa,qn,qg,qe,alS,qd];rw [qb (by simp [h1])]
 ·have h2:lcp x y≠y.length:=fun e=>by
   have exy:=zEe hg tx ty (.inr e);rw [e,exy] at h1;exact h1 rfl
  have i1:lcp x y<x.length:=by omega
  have i2:lcp x y<y.length:=by omega
  have hne:=zzU x y i1 i2;have ex:idx x (lcp x y:Int)=some x[lcp x y]:=zd i1;have ey:idx y (lcp x y:Int)=some y[lcp x y]:=zd i2;have mx:x[lcp x y]∈x:=qi i1;have my:y[lcp x y]∈y:=qi i2;have gx:x[lcp x y]?=some x[lcp x y]:=qv i1;have gy:y[lcp x y]?=some y[lcp x y]:=qv i2;have dx:x.drop (lcp x y)=x[lcp x y]::x.drop (lcp x y+1):=qj i1;have dy:y.drop (lcp x y)=y[lcp x y]::y.drop (lcp x y+1):=qj i2;have nx:=zrG x 1 tx _ mx;have ny:=zrG y 1 ty _ my
  have var: ∀k:Int,k<0-> -12<=k->Tm s.1 [k]:=fun k k0 k1=>by
   have hb: ¬badN s.1 k:=by unfold badN;omega
   show sE s.1 1 [k]=some [];simp only [sE];rw [qc (by omega),qc hb];unfold ar;rw [qb k0];rfl
  obtain ⟨ux,zx,px,qx,vx⟩: ∃u z,x.drop (lcp x y)=u++z∧Tm s.1 u∧(x[lcp x y]<0->u= [x[lcp x y]]):=by
   by_cases h:x[lcp x y]<0
   ·exact ⟨[x[lcp x y]],_,dx,var _ h nx.1,fun _=>rfl⟩
   ·obtain ⟨u,z,p,q⟩:=Tm.at hg tx i1;exact ⟨u,z,p,q,fun h'=>absurd h' h⟩
  obtain ⟨uy,zy,py,qy,vy⟩: ∃u z,y.drop (lcp x y)=u++z∧Tm s.1 u∧(y[lcp x y]<0->u= [y[lcp x y]]):=by
   by_cases h:y[lcp x y]<0
   ·exact ⟨[y[lcp x y]],_,dy,var _ h ny.1,fun _=>rfl⟩
   ·obtain ⟨u,z,p,q⟩:=Tm.at hg ty i2;exact ⟨u,z,p,q,fun h'=>absurd h' h⟩
  have pSx:=zrR s hg x (by omega) px qx;have pSy:=zrR s hg y (by omega) py qy;have pIx:=zx2 s hg x (by omega) px qx;have pIy:=zx2 s hg y (by omega) py qy
  have lux:ux.length<=40:=by
   have:=congrArg List.length px;simp at this;omega
  have luy:uy.length<=40:=by
   have:=congrArg List.length py;simp at this;omega
  have fux:Free σ ux:=fun k hk h0=>fx k (by
   have:k∈x.drop (lcp x y):=by rw [px];exact qw _ hk
   exact List.mem_of_mem_drop this) h0
  have fuy:Free σ uy:=fun k hk h0=>fy k (by
   have:k∈y.drop (lcp x y):=by rw [py];exact qw _ hk
   exact List.mem_of_mem_drop this) h0
  have hwx:IntKind.i64.wrap (-1-x[lcp x y])= -1-x[lcp x y]:=w64 (by omega) (by have:=nx.1;omega);have hwy:IntKind.i64.wrap (-1-y[lcp x y])= -1-y[lcp x y]:=w64 (by omega) (by have:=ny.1;omega);generalize hN:x[lcp x y]=n at *;generalize hM:y[lcp x y]=k at *;have e1:((lcp x y:Int)==(x.length:Int))=false:=by simp;omega
  have e2:((lcp x y:Int)==(y.length:Int))=false:=by simp;omega
  have hpx:0<=(lcp x y:Int)∧(lcp x y:Int)<(x.length:Int):=by omega
  have hpy:0<=(lcp x y:Int)∧(lcp x y:Int)<(y.length:Int):=by omega
  by_cases hn:n<0
  ·have dn0:decide (n>=0)=false:=by simp;omega
   have dn1:decide (n<0)=true:=by simpa using hn
   by_cases hk:k<0
   ·have dk0:decide (k>=0)=false:=by simp;omega
    have dk1:decide (k<0)=true:=by simpa using hk
    have hux:=vx hn;have huy:=vy hk;by_cases hlt:k<n
    ·obtain ⟨r,r1,r2,r3⟩:=step k ux hk ny.1 (ze.2 ⟨lux,qx⟩) fux (fy k my hk);have g1:decide (-1-k> -1-n)=true:=by simp;omega
     refine ⟨r,zdd _ _ _ _ ?_,zdr _ _ _ _ _ _ ?_,r3⟩
     ·simp only [zbF,za,alI,qa,qd,e1,e2,ex,ey,dn0,dn1,dk0,dk1,qg,qe,qf];rw [qb hlt,qc (show ¬k>n by omega),<-hux];exact r1
     ·simp only [zbU,za,hsz,qa,qn,qg,qe,alS,qd,e1,qb hpx,qb hpy,qo,gx,gy,dn0,dk1,hwx,hwy,pSy,pSx,g1,qf];exact r2
    ·obtain ⟨r,r1,r2,r3⟩:=step n uy hn nx.1 (ze.2 ⟨luy,qy⟩) fuy (fx n mx hn);have g1:decide (-1-k> -1-n)=false:=by simp;omega
     refine ⟨r,zdd _ _ _ _ ?_,zdr _ _ _ _ _ _ ?_,r3⟩
     ·simp only [zbF,za,alI,qa,qd,e1,e2,ex,ey,dn0,dn1,dk0,dk1,qg,qe,qf];rw [qc hlt,qb (show k>n by omega),<-huy];exact r1
     ·simp only [zbU,za,hsz,qa,qn,qg,qe,alS,qd,e1,qb hpx,qb hpy,qo,gx,gy,dn0,dk1,hwx,hwy,pSy,pSx,g1,qf];exact r2
   ·have dk0:decide (k>=0)=true:=by simp;omega
    have dk1:decide (k<0)=false:=by simpa using hk
    obtain ⟨r,r1,r2,r3⟩:=step n uy hn nx.1 (ze.2 ⟨luy,qy⟩) fuy (fx n mx hn);refine ⟨r,zdd _ _ _ _ ?_,zdr _ _ _ _ _ _ ?_,r3⟩
    ·simp only [zbF,za,alI,qa,qd,e1,e2,ex,ey,dn0,dn1,dk0,dk1,qg,qe,qf,pIy];exact r1
    ·simp only [zbU,za,hsz,qa,qn,qg,qe,alS,qd,e1,qb hpx,qb hpy,qo,gx,gy,dn0,dk1,hwx,hwy,pSy,pSx,qf];exact r2
  ·have dn0:decide (n>=0)=true:=by simp;omega
   have dn1:decide (n<0)=false:=by simpa using hn
   by_cases hk:k<0
   ·have dk0:decide (k>=0)=false:=by simp;omega
    have dk1:decide (k<0)=true:=by simpa using hk
    obtain ⟨r,r1,r2,r3⟩:=step k ux hk ny.1 (ze.2 ⟨lux,qx⟩) fux (fy k my hk);refine ⟨r,zdd _ _ _ _ ?_,zdr _ _ _ _ _ _ ?_,r3⟩
    ·simp only [zbF,za,alI,qa,qd,e1,e2,ex,ey,dn0,dn1,dk0,dk1,qg,qe,qf,pIx];exact r1
    ·simp only [zbU,za,hsz,qa,qn,qg,qe,alS,qd,e1,qb hpx,qb hpy,qo,gx,gy,dn0,dk0,dk1,hwx,hwy,pSy,pSx,qf];exact r2
   ·have dk0:decide (k>=0)=true:=by simp;omega
    refine ⟨failU,zdd _ _ _ _ ?_,zdr _ _ _ _ _ _ ?_,zpw _ _ _⟩
    ·simp only [zbF,za,alI,qa,qd,e1,e2,ex,ey,dn0,dk0,qg,qe,qf];rfl
    ·simp only [zbU,za,hsz,qa,qn,qg,qe,alS,qd,e1,qb hpx,qb hpy,qo,gx,gy,dn0,dk0,qf];rfl
theorem zJk: ∀(m:Nat) (σ:Int->List Int),12-nbound σ<=m->okU s.1 σ->(apS σ a0).length<=40->(apS σ b0).length<=40-> ∃r,za6 M (apS σ a0) (apS σ b0) s (tabS σ)=some (.inr r)∧za3 M a0 b0 s (tabS σ) (apS σ a0) (apS σ b0)=some (.inr r)∧goodU s.1 a0 b0 r:=by
 intro m
 induction m with
 | zero=>
  intro σ hm hσ hx hy;refine zCk s hg a0 b0 ha hb σ hσ hx hy (fun τ _ hlt _ _=>?_);have:=zA4 τ
  omega
 | succ m ih=>
  intro σ hm hσ hx hy;refine zCk s hg a0 b0 ha hb σ hσ hx hy (fun τ hτ hlt h1 h2=>ih τ ?_ hτ h1 h2);have:=zA4 τ;omega
theorem zAF: ∃r,zfN M s a0 b0=some r∧zih M s a0 b0=some r∧goodU s.1 a0 b0 r:=by
 obtain ⟨a1,a2⟩:=ze.1 ha;obtain ⟨b1,b2⟩:=ze.1 hb;have h0:okU s.1 (fun _=> []):=⟨fun v h=>absurd rfl h,fun u m hm=>by cases hm⟩;have e: ∀T:List Int,apS (fun _=> []) T=T:=fun T=>zyR (fun m _ _=>rfl)
 obtain ⟨r,r1,r2,r3⟩:=zJk s hg a0 b0 ha hb 12 (fun _=> []) (by omega) h0 (by rw [e];exact a1) (by rw [e];exact b1);rw [e,e] at r1 r2;refine ⟨r,zym _ _ _ ?_,zAf _ _ _ ?_,r3⟩
 ·simp only [znQ];rw [qb ⟨by decide,by decide,trivial⟩,show (12:Int).toNat=12 from rfl,za,show List.replicate 12 ([]:List Int)=tabS (fun _=> []) from rfl,r1];rfl
 ·simp only [zq0];rw [qb ⟨by decide,by decide,trivial⟩,show (12:Int).toNat=12 from rfl,za,ziu a0 (by omega),ziu b0 (by omega)];simp only [qa];rw [show List.replicate 12 ([]:List Int)=tabS (fun _=> []) from rfl,r2];rfl
end
theorem zIs (s:TSign) (hg:gS s.1=true) (t:List Int):zgm M t s=some ((!isT s.1 t,()),()):=by
 apply zuX;simp only [zj1,zap,zyG s hg t,qa]
theorem zC2 (s:TSign) (hg:gS s.1=true) (a:List (List Int)) (ha:a.length<=17592186044416): ∀k i:Nat,i+k=a.length-> ∃r,zK M a (s,()) a.length i=some r∧(match r with | .inl _=>(a.drop i).all (isT s.1)=true | .inr r=>0<=r.1.1∧(a.drop i).all (isT s.1)=false):=by
 intro k
 induction k with
 | zero=>
  intro i hi;obtain rfl:i=a.length:=by omega
  refine ⟨.inl (),za4 _ _ _ _ (by simp [zH]),by simp⟩
 | succ k ih=>
  intro i hi;have h1:i<a.length:=by omega
  obtain ⟨r,hr,hm⟩:=ih (i+1) (by omega);rw [qj h1,qT];by_cases hp:isT s.1 a[i]=true
  ·refine ⟨r,za4 _ _ _ _ ?_,by rw [hp,Bool.true_and];exact hm⟩;simp only [zH];rw [qb (by simpa using h1),zd h1,zb (by omega)];simp only [qa,zIs s hg,hp,qn,qg,qe];exact hr
  ·rw [Bool.not_eq_true] at hp;refine ⟨.inr (((i:Int),()),()),za4 _ _ _ _ ?_,Int.natCast_nonneg i,by rw [hp,Bool.false_and]⟩;simp only [zH];rw [qb (by simpa using h1),zd h1];simp only [qa,zIs s hg,hp,qU,qf]
theorem zEx (s:TSign) (hg:gS s.1=true) (a:List (List Int)) (ha:a.length<=17592186044416):zfe M s a=some ((a.all (isT s.1),()),()):=by
 obtain ⟨r,hr,hm⟩:=zC2 s hg a ha a.length 0 (by omega);rw [show ((0:Nat):Int)=0 from rfl] at hr;rw [qk] at hm
 have key:zaq M a (s,())=some ((!(a.all (isT s.1)),()),()):=by
  apply zgG;simp only [zbc]
  cases r with
  | inl r=>
   rw [zcN a (s,()) (r:=((-1,()),())) (by simp only [zaA,hr,qa,qd])];simp only at hm
   simp [hm]
  | inr r=>
   rw [zcN a (s,()) (r:=r) (by simp only [zaA,hr,qa,qF])];simp only at hm;simp [hm]
 apply zv8;simp only [zln,zap,key,qa,Bool.not_not]
theorem zrm (c:List TLit) (ts:List (List Int)) (hc:c.length<=1000000) (hl:2*c.length<=ts.length):zdm M c ts=some ((wtZ c ts,()),()):=by
 apply zyV;simp only [zoQ];rw [qb ⟨hc,hl⟩]
def far (L:List Int):Int:=match L.getLast? with
 | some v=>v+1
 | none=>0
theorem zAy {L:List Int} (h:0<L.length): ∃v,L[L.length-1]?=some v∧far L=v+1∧v∈L:=by
 have h1:L.length-1<L.length:=by omega
 refine ⟨L[L.length-1],qv h1,?_,qi h1⟩;unfold far;rw [List.getLast?_eq_getElem?,qv h1]
theorem zAO {L:List Int} (h: ∀v∈L,0<=v∧v<=11):0<=far L∧far L<=12:=by
 by_cases h0:0<L.length
 ·obtain ⟨v,_,e,hv⟩:=zAy h0;have:=h v hv;omega
 ·have:L= []:=wc.1 (by omega);subst this;simp [far]
theorem zGK (c:List TLit) (hl:c.length<=1000) (hc: ∀x∈c,liV x):znq M c=some ((far (upTo (inV (tms c))),()),()):=by
 apply zAG;simp only [zqP,zHq c hl hc,qa];have hlen:=zvT (inV (tms c));by_cases h0:0<(upTo (inV (tms c))).length
 ·obtain ⟨v,e1,e2,hv⟩:=zAy h0;have hb:=ziD.1 hv;rw [qc (by simp;intro h;rw [h] at h0;simp at h0),w64 (by omega) (by omega),qb (by omega),show ((upTo (inV (tms c))).length:Int)-1=(((upTo (inV (tms c))).length-1:Nat):Int) by omega,qo,e1];simp only [qa];rw [w64 (by omega) (by omega),e2]
 ·have:upTo (inV (tms c))= []:=wc.1 (by omega);rw [this];simp [far]
def shl (by':Int) (x:TLit):TLit:=(x.1,x.2.1.map (shn by'),x.2.2.1.map (shn by'),())
theorem zAV (s:TSign) (by':Int) (h0:0<=by') (h1:by'<=1000) (d:List TLit) (hl:d.length<=1000) (hd: ∀x∈d,x.2.1.length<=1000∧x.2.2.1.length<=1000∧(∀n∈x.2.1,-1000<=n∧n<=1000)∧ ∀n∈x.2.2.1,-1000<=n∧n<=1000): ∀k i:Nat,i+k=d.length-> ∀o:List TLit,o.length=i->zgH M s by' o d d.length i=some (.inl (s,o++(d.drop i).map (shl by'),())):=by
 intro k
 induction k with
 | zero=>
  intro i hi o ho;obtain rfl:i=d.length:=by omega
  exact zqG _ _ _ _ _ _ (by simp [ziO])
 | succ k ih=>
  intro i hi o ho;have h2:i<d.length:=by omega
  obtain ⟨d1,d2,d3,d4⟩:=hd _ (qi h2);apply zqG;simp only [ziO];rw [qb (by simpa using h2),zd h2];simp only [qa];rw [zBc _ by' h0 h1 (by omega) (fun n hn=>by have:=d3 n hn;omega)];simp only [qa];rw [zBc _ by' h0 h1 (by omega) (fun n hn=>by have:=d4 n hn;omega)];simp only [qa];rw [qb (by simp;omega),zb (by omega),zap,ih (i+1) (by omega) _ (by simp [ho]),qj h2,qJ,qE];rfl
theorem zCp (d:List TLit) (s:TSign) (by':Int) (h0:0<=by') (h1:by'<=1000) (ts:List (List Int)) (hl:ts.length<=1000) (ht: ∀t∈ts,t.length<=1000∧ ∀n∈t,-1000<=n∧n<=1000): ∀k i:Nat,i+k=ts.length->
  zda M d s by' ((ts.take i).map (fun t=>(some (true,t.map (shn by')):Option (Bool×List Int)))++(ts.drop i).map (fun t=>some (false,t))) ts.length i=some (.inl (d,s,ts.map (fun t=>some (true,t.map (shn by'))),())):=by
 intro k
 induction k with
 | zero=>
  intro i hi;obtain rfl:i=ts.length:=by omega
  apply zn1
  simp [zgw]
 | succ k ih=>
  intro i hi;have h2:i<ts.length:=by omega
  obtain ⟨t1,t2⟩:=ht _ (qi h2);have hlen:((ts.take i).map (fun t=>(some (true,t.map (shn by')):Option (Bool×List Int)))++(ts.drop i).map (fun t=>some (false,t))).length=ts.length:=by simp;omega
  have hget:((ts.take i).map (fun t=>(some (true,t.map (shn by')):Option (Bool×List Int)))++(ts.drop i).map (fun t=>some (false,t)))[i]?=some (some (false,ts[i])):=by
   rw [List.getElem?_append_right (by simp;omega)];simp [Nat.min_eq_left (Nat.le_of_lt h2),h2]
  have hsee:seeO ((ts.take i).map (fun t=>(some (true,t.map (shn by')):Option (Bool×List Int)))++(ts.drop i).map (fun t=>some (false,t))) i=some ts[i]:=by
   unfold seeO;rw [hget]
  have hnext:(ts.take (i+1)).map (fun t=>(some (true,t.map (shn by')):Option (Bool×List Int)))++(ts.drop (i+1)).map (fun t=>some (false,t))=((ts.take i).map (fun t=>(some (true,t.map (shn by')):Option (Bool×List Int)))++(ts.drop i).map (fun t=>some (false,t))).set i (some (true,ts[i].map (shn by'))):=by
   rw [List.take_succ_eq_append_getElem h2,List.map_append,List.set_append_right _ _ (by simp;omega)];have e:i-((ts.take i).map (fun t=>(some (true,t.map (shn by')):Option (Bool×List Int)))).length=0:=by simp;omega
   rw [e,qj h2];simp only [qJ,List.map_nil,List.set_cons_zero,qE,qY,qB]
  have ih':=ih (i+1) (by omega);rw [hnext] at ih';apply zn1;simp only [zgw];rw [qb (by simpa using h2),qb (by rw [hlen];omega),qo,hsee];simp only [qa];rw [zIF _ by' h0 h1 (by omega) (fun n hn=>by have:=t2 n hn;omega)];simp only [qa];rw [qb (by rw [hlen];omega),hget];simp only [qa];rw [zb (by omega),zap];exact ih'
theorem zxn (f:List Int->List Int) (ts:List (List Int)):allOw (ts.map fun t=>(some (true,f t):Option (Bool×List Int)))=true:=by
 induction ts with
 | nil=>rfl
 | cons t r ih=>simpa [allOw] using ih
theorem zvO (f:List Int->List Int) (ts:List (List Int)):forceL (ts.map fun t=>(some (true,f t):Option (Bool×List Int)))=ts.map f:=by
 simp [forceL,List.map_map,Function.comp_def]
theorem zxZ (f:List Int->List Int) (d:List TLit):wtZ d ((tms d).map f)=d.map fun x=>(x.1,f x.2.1,f x.2.2.1,()):=by
 induction d with
 | nil=>rfl
 | cons x r ih=>
  have:tms (x::r)= [x.2.1,x.2.2.1]++tms r:=rfl;rw [this];simp only [qY,qB,qJ,wtZ,ih]
theorem zI9 (s:List Int) (by':Int) (d:List TLit):((tms d).map fun t=>t.map (shn by')).all (isT s)=(d.map (shl by')).all (litOK s):=by
 induction d with
 | nil=>rfl
 | cons x r ih=>
  have:tms (x::r)= [x.2.1,x.2.2.1]++tms r:=rfl;rw [this];simp only [qY,qB,qJ,qT,ih,shl,litOK,Bool.and_assoc]
theorem zC5 {a:List Int} (hg:gS a=true) {c:List TLit} (h:clOK a c=true): ∀x∈c,x.2.1.length<=1000∧x.2.2.1.length<=1000∧(∀n∈x.2.1,-1000<=n∧n<=1000)∧ ∀n∈x.2.2.1,-1000<=n∧n<=1000:=by
 have hal:a.length<=10:=by
  simp only [gS,qq,qC] at hg;omega
 simp only [clOK,qq,qC] at h;intro x hx;have:=(List.all_eq_true.1 h.2) x hx;simp only [litOK,qq] at this;obtain ⟨l1,l2⟩:=zo4 this.1;obtain ⟨r1,r2⟩:=zo4 this.2;exact ⟨by omega,by omega,fun n hn=>by have:=l2 n hn;omega,fun n hn=>by have:=r2 n hn;omega⟩
def apartC (c d:List TLit):List TLit:=d.map (shl (far (upTo (inV (tms c)))))
theorem zCK (s:TSign) (hg:gS s.1=true) (c d:List TLit) (hc:clOK s.1 c=true) (hd:clOK s.1 d=true):zkw M s c d=some (if (apartC c d).all (litOK s.1)=true then ((apartC c d,true,()),()) else (([],false,()),())):=by
 obtain ⟨c1,c2⟩:=zq7 hc;obtain ⟨d1,_⟩:=zq7 hd;have d2:=zC5 hg hd
 have hv:=zCc (tms c) (by rw [zkE];omega) (by
  intro t ht;obtain ⟨x,hx,h⟩:=zdb.1 ht;have:=c2 x hx;rcases h with rfl | rfl
  ·have:=this.1;omega
  ·have:=this.2.1;omega)
 have hf:=zAO (L:=upTo (inV (tms c))) (fun v hv=>⟨(ziD.1 hv).1,(ziD.1 hv).2.1⟩);have hlen:=zvT (inV (tms c))
 have hloop:=zCp d s (far (upTo (inV (tms c)))) hf.1 (by omega) (tms d) (by rw [zkE];omega) (by
  intro t ht;obtain ⟨x,hx,h⟩:=zdb.1 ht;obtain ⟨e1,e2,e3,e4⟩:=d2 x hx;rcases h with rfl | rfl
  ·exact ⟨e1,e3⟩
  ·exact ⟨e2,e4⟩) (tms d).length 0 (by omega)
 rw [show ((0:Nat):Int)=0 from rfl] at hloop;simp only [List.take_zero,List.map_nil,qB,qk] at hloop;apply zyh;simp only [znK,zpn c (by omega),qa,hv,zap]
 have rest: ∀b:Int,b=far (upTo (inV (tms c)))->((zbS M d).bind fun r5=>((zda M d s b (List.map (fun x=>(some (false,x):Option (Bool×List Int))) r5.1.1) (List.length r5.1.1:Int) (0:Int)).bind (Sum.elim (fun y6=>(if allOw y6.2.2.1=true then ((zfe M y6.2.1 (forceL y6.2.2.1)).bind fun r8=>(if (!r8.1.1)=true then (some (([],false,()),())) else ((zdm M y6.1 (forceL y6.2.2.1)).bind fun r9=>(some ((r9.1.1,true,()),()))))) else none)) (fun r7=>(some r7)))):Option ((List TLit×Bool×Unit)×Unit))=some (if (apartC c d).all (litOK s.1)=true then ((apartC c d,true,()),()) else (([],false,()),())):=by
  intro b hb;subst hb;rw [zpn d (by omega)];simp only [qa,hloop,qd];rw [qb (zxn _ _),zvO,zEx s hg _ (by simp only [qV,zkE];omega)];simp only [qa,zI9];show _=some (if ((d.map (shl (far (upTo (inV (tms c)))))).all (litOK s.1))=true then _ else _)
  cases hh:(d.map (shl (far (upTo (inV (tms c)))))).all (litOK s.1) with
  | false=>rfl
  | true=>
   simp only [qn,qg,qe,qf];rw [zrm d _ (by omega) (by simp only [qV,zkE];omega),zxZ];rfl
 by_cases h0:0<(upTo (inV (tms c))).length
 ·obtain ⟨v,e1,e2,hv⟩:=zAy h0;have hb:=ziD.1 hv;rw [qb (by simp;omega),w64 (by omega) (by omega),qb (by omega),show ((upTo (inV (tms c))).length:Int)-1=(((upTo (inV (tms c))).length-1:Nat):Int) by omega,qo,e1];simp only [qa,qd];exact rest _ (by rw [w64 (x:=v+1) (by omega) (by omega),e2])
 ·rw [qc (by rw [qC];omega)];simp only [qa,qd];refine rest 0 ?_;have:upTo (inV (tms c))= []:=wc.1 (by omega);rw [this];rfl
theorem zCa (s:TSign) (hg:gS s.1=true) (c d:List TLit) (hc:clOK s.1 c=true) (hd:clOK s.1 d=true):znh M s c d=some (if (apartC c d).all (litOK s.1)=true then ((apartC c d,true,()),()) else (([],false,()),())):=by
 obtain ⟨c1,c2⟩:=zq7 hc;obtain ⟨d1,_⟩:=zq7 hd;have d2:=zC5 hg hd;have hf:=zAO (L:=upTo (inV (tms c))) (fun v hv=>⟨(ziD.1 hv).1,(ziD.1 hv).2.1⟩);have hloop:=zAV s (far (upTo (inV (tms c)))) hf.1 (by omega) d (by omega) d2 d.length 0 (by omega) [] rfl;rw [show ((0:Nat):Int)=0 from rfl] at hloop;simp only [qB,qk] at hloop
 have hsm: ∀x∈d.map (shl (far (upTo (inV (tms c))))),smL x:=by
  intro x hx;obtain ⟨y,hy,rfl⟩:=qP.1 hx;obtain ⟨e1,e2,_,_⟩:=d2 y hy;exact ⟨by simp [shl];omega,by simp [shl];omega⟩
 apply zAR;simp only [zqQ,zGK c (by omega) c2,qa,zap,hloop,qd]
 have hm:zoz M s (d.map (shl (far (upTo (inV (tms c))))))=some (if (apartC c d).all (litOK s.1)=true then ((apartC c d,true,()),()) else (([],false,()),())):=by
  apply zBP;simp only [zsG,zap,zjG s hg _ (by simp;omega) hsm,qa]
  have:clOK s.1 (d.map (shl (far (upTo (inV (tms c))))))=(apartC c d).all (litOK s.1):=by
   simp only [clOK,qV,qp d1,Bool.true_and];rfl
  rw [this];cases (apartC c d).all (litOK s.1)<;>rfl
 rw [hm];cases (apartC c d).all (litOK s.1)<;>rfl
def apC (σ:Int->List Int) (c:List TLit):List TLit:=c.map fun x=>(x.1,apS σ x.2.1,apS σ x.2.2.1,())
theorem zAQ (σ:Int->List Int) (hb: ∀v,(σ v).length<=100000) (c:List TLit) (hl:c.length<=1000) (hc: ∀x∈c,x.2.1.length<=100∧x.2.2.1.length<=100∧(∀n∈x.2.1,-12<=n)∧ ∀n∈x.2.2.1,-12<=n): ∀k i:Nat,i+k=c.length-> ∀o:List TLit,o.length=i->zhA M (tabS σ) o c c.length i=some (.inl (o++apC σ (c.drop i),())):=by
 intro k
 induction k with
 | zero=>
  intro i hi o ho;obtain rfl:i=c.length:=by omega
  apply zrW
  simp [zjA,apC]
 | succ k ih=>
  intro i hi o ho;have h1:i<c.length:=by omega
  obtain ⟨c1,c2,c3,c4⟩:=hc _ (qi h1);apply zrW;simp only [zjA];rw [qb (by simpa using h1),zd h1];simp only [qa,zfm _ _ (zeb σ) hb _ c1 c3,zfm _ _ (zeb σ) hb _ c2 c4];rw [qb (by simp;omega),zb (by omega),ih (i+1) (by omega) _ (by simp [ho]),qj h1];simp only [apC,qJ,qE,qY,qB]
theorem zuG (σ:Int->List Int) (hb: ∀v,(σ v).length<=100000) (c:List TLit) (hl:c.length<=1000) (hc: ∀x∈c,x.2.1.length<=100∧x.2.2.1.length<=100∧(∀n∈x.2.1,-12<=n)∧ ∀n∈x.2.2.1,-12<=n):zgd M (tabS σ) c=some ((apC σ c,()),()):=by
 apply zAS;have:=zAQ σ hb c hl hc c.length 0 (by omega) [] rfl;rw [show ((0:Nat):Int)=0 from rfl,qk,qB] at this;simp only [zqO,this,qa,qd]
def fitT (σ:Int->List Int) (ts:List (List Int)):Bool:=ts.all fun t=>decide ((apS σ t).length<=40)
theorem zBz (σ:Int->List Int) (hb: ∀v,(σ v).length<=100000) (d:List TLit) (ts:List (List Int)) (hl:ts.length<=1000) (ht: ∀t∈ts,t.length<=100∧ ∀n∈t,-12<=n): ∀k i:Nat,i+k=ts.length->
  zeW M (tabS σ) d ((ts.take i).map (fun t=>(some (true,apS σ t):Option (Bool×List Int)))++(ts.drop i).map (fun t=>some (false,t))) ts.length i=some (if fitT σ (ts.drop i)=true then .inl (d,ts.map (fun t=>some (true,apS σ t)),()) else .inr (([],false,()),())):=by
 intro k
 induction k with
 | zero=>
  intro i hi;obtain rfl:i=ts.length:=by omega
  apply zn3
  simp [zgp,fitT]
 | succ k ih=>
  intro i hi;have h2:i<ts.length:=by omega
  obtain ⟨t1,t2⟩:=ht _ (qi h2);have hlen:((ts.take i).map (fun t=>(some (true,apS σ t):Option (Bool×List Int)))++(ts.drop i).map (fun t=>some (false,t))).length=ts.length:=by simp;omega
  have hget:((ts.take i).map (fun t=>(some (true,apS σ t):Option (Bool×List Int)))++(ts.drop i).map (fun t=>some (false,t)))[i]?=some (some (false,ts[i])):=by
   rw [List.getElem?_append_right (by simp;omega)];simp [Nat.min_eq_left (Nat.le_of_lt h2),h2]
  have hsee:seeO ((ts.take i).map (fun t=>(some (true,apS σ t):Option (Bool×List Int)))++(ts.drop i).map (fun t=>some (false,t))) i=some ts[i]:=by
   unfold seeO;rw [hget]
  have hnext:(ts.take (i+1)).map (fun t=>(some (true,apS σ t):Option (Bool×List Int)))++(ts.drop (i+1)).map (fun t=>some (false,t))=((ts.take i).map (fun t=>(some (true,apS σ t):Option (Bool×List Int)))++(ts.drop i).map (fun t=>some (false,t))).set i (some (true,apS σ ts[i])):=by
   rw [List.take_succ_eq_append_getElem h2,List.map_append,List.set_append_right _ _ (by simp;omega)];have e:i-((ts.take i).map (fun t=>(some (true,apS σ t):Option (Bool×List Int)))).length=0:=by simp;omega
   rw [e,qj h2];simp only [qJ,List.map_nil,List.set_cons_zero,qE,qY,qB]
  have ih':=ih (i+1) (by omega);rw [hnext] at ih'
  have hf:fitT σ (ts.drop i)=(decide ((apS σ ts[i]).length<=40)&&fitT σ (ts.drop (i+1))):=by
   rw [qj h2,fitT,qT,fitT]
  have ha:=zq5 _ _ (zeb σ) hb ts[i] t1 t2;apply zn3;simp only [zgp];rw [qb (by simpa using h2),qb (by rw [hlen];omega),qo,hsee];simp only [qa,ha];rw [qb (by rw [hlen];omega),hget];simp only [qa];rw [hf];by_cases h:(apS σ ts[i]).length<=40
  ·rw [qb h,qp h,Bool.true_and];simp only [qn,qg,qe];rw [zb (by omega)];exact ih'
  ·rw [qc h,qr h,Bool.false_and];rfl
theorem zoI (σ:Int->List Int) (hb: ∀v,(σ v).length<=100000) (c:List TLit) (hl:c.length<=100) (hc: ∀x∈c,x.2.1.length<=100∧x.2.2.1.length<=100∧(∀n∈x.2.1,-12<=n)∧ ∀n∈x.2.2.1,-12<=n):zdj M (tabS σ) c=some (if fitT σ (tms c)=true then ((apC σ c,true,()),()) else (([],false,()),())):=by
 have hloop:=zBz σ hb c (tms c) (by rw [zkE];omega) (by
  intro t ht;obtain ⟨x,hx,h⟩:=zdb.1 ht;obtain ⟨e1,e2,e3,e4⟩:=hc x hx;rcases h with rfl | rfl
  ·exact ⟨e1,e3⟩
  ·exact ⟨e2,e4⟩) (tms c).length 0 (by omega)
 rw [show ((0:Nat):Int)=0 from rfl] at hloop;simp only [List.take_zero,List.map_nil,qB,qk] at hloop;apply zxg;simp only [zna,zpn c (by omega),qa,hloop]
 cases fitT σ (tms c) with
 | false=>rfl
 | true=>
  simp only [qf,qd];rw [qb (zxn _ _),zvO,zrm c _ (by omega) (by simp only [qV,zkE];omega),zxZ];rfl
def sameL (x y:TLit):Bool:=x.1==y.1&&((decide (x.2.1=y.2.1)&&decide (x.2.2.1=y.2.2.1)) || (decide (x.2.1=y.2.2.1)&&decide (x.2.2.1=y.2.1)))
def sameT (x y:TLit):Bool:=(decide (x.2.1=y.2.1)&&decide (x.2.2.1=y.2.2.1)) || (decide (x.2.1=y.2.2.1)&&decide (x.2.2.1=y.2.1))
theorem zuU (x y:TLit) (hx:smL x):zlH M x y=some ((sameT x y,()),())∧zgN M x y=some ((sameT x y,()),()):=by
 have h1:=hx.1;have h2:=hx.2;refine ⟨zyM _ _ ?_,zxi _ _ ?_⟩
 ·simp only [zoU,zkI x.2.1 y.2.1 (by omega),zkI x.2.2.1 y.2.2.1 (by omega),zkI x.2.1 y.2.2.1 (by omega),zkI x.2.2.1 y.2.1 (by omega),qa,sameT];cases decide (x.2.1=y.2.1)<;>cases decide (x.2.2.1=y.2.2.1)<;>cases decide (x.2.1=y.2.2.1)<;>rfl
 ·simp only [zmZ,zis x.2.1 y.2.1 (by omega),zis x.2.2.1 y.2.2.1 (by omega),zis x.2.1 y.2.2.1 (by omega),zis x.2.2.1 y.2.1 (by omega),qa,sameT];cases decide (x.2.1=y.2.1)<;>cases decide (x.2.2.1=y.2.2.1)<;>cases decide (x.2.1=y.2.2.1)<;>rfl
theorem zIx (m l:TLit) (hl:smL l):zow M m l=some ((sameL l m,()),()):=by
 apply zBO;simp only [zsp,zg,(zuU l m hl).1,qa];have:sameL l m=(l.1==m.1&&sameT l m):=rfl;rw [this];cases l.1==m.1<;>rfl
theorem zIE (l:TLit) (hl:smL l) (a:List TLit) (ha:a.length<=1048576): ∀k i:Nat,i+k=a.length-> ∃r,zT M a (l,()) a.length i=some r∧(match r with | .inl _=>((a.drop i).any (sameL l))=false | .inr r=>0<=r.1.1∧((a.drop i).any (sameL l))=true):=by
 intro k
 induction k with
 | zero=>
  intro i hi;obtain rfl:i=a.length:=by omega
  refine ⟨.inl (),zbf _ _ _ _ (by simp [zP]),by simp⟩
 | succ k ih=>
  intro i hi;have h1:i<a.length:=by omega
  have hg:=zIx a[i] l hl;obtain ⟨r,hr,hm⟩:=ih (i+1) (by omega);rw [qj h1,List.any_cons]
  cases hp:sameL l a[i] with
  | false=>
   refine ⟨r,zbf _ _ _ _ ?_,by simpa using hm⟩;simp only [zP];rw [qb (by simpa using h1),zd h1,zb (by omega)];simp only [qa,zg,hg,hp,qg,qe]
   exact hr
  | true=>
   refine ⟨.inr (((i:Int),()),()),zbf _ _ _ _ ?_,Int.natCast_nonneg i,by simp⟩;simp only [zP];rw [qb (by simpa using h1),zd h1];simp only [qa,zg,hg,hp,qf]
theorem zCm (l:TLit) (hl:smL l) (a:List TLit) (ha:a.length<=1048576):zS M a (l,())=some ((a.any (sameL l),()),()):=by
 apply zhs;simp only [zbj];obtain ⟨r,hr,hm⟩:=zIE l hl a ha a.length 0 (by omega);rw [show ((0:Nat):Int)=0 from rfl] at hr;rw [qk] at hm
 cases r with
 | inl r=>
  rw [zc9 a (l,()) (r:=((-1,()),())) (by simp only [zaK,hr,qa,qd])];simp only at hm
  rw [hm];rfl
 | inr r=>
  rw [zc9 a (l,()) (r:=r) (by simp only [zaK,hr,qa,qF])];simp only at hm;simp [hm]
def td:List TLit->List TLit->List TLit
 | out,[]=>out
 | out,x::c=>if (x.1=false∧x.2.1=x.2.2.1)∨out.any (sameL x)=true then td out c else td (out++ [x]) c
theorem zDR (c:List TLit) (hl:c.length<=1000) (hc: ∀x∈c,smL x): ∀(k i:Nat) (o:List TLit),i+k=c.length->o.length<=i->zgi M o c c.length i=some (.inl (td o (c.drop i),())):=by
 intro k
 induction k with
 | zero=>
  intro i o hi ho;obtain rfl:i=c.length:=by omega
  apply zuD
  simp [zmt,td]
 | succ k ih=>
  intro i o hi ho;have h1:i<c.length:=by omega
  have hx:=hc _ (qi h1);have hx1:=hx.1;have hx2:=hx.2
  have hcp:zkT M c[i]=some ((c[i],()),()):=by
   apply zz7;simp only [zrd];rw [qb (by omega),qb (by omega)]
  rw [qj h1]
  have skip:((c[i].1=false∧c[i].2.1=c[i].2.2.1)∨o.any (sameL c[i])=true)->zgi M o c c.length ((i+1:Nat):Int)=some (.inl (td o (c[i]::c.drop (i+1)),())):=by
   intro h;rw [ih (i+1) o (by omega) (by omega),td,qb h]
  have take: ¬((c[i].1=false∧c[i].2.1=c[i].2.2.1)∨o.any (sameL c[i])=true)->zgi M (o++ [c[i]]) c c.length ((i+1:Nat):Int)=some (.inl (td o (c[i]::c.drop (i+1)),())):=by
   intro h;rw [ih (i+1) _ (by omega) (by simp;omega),td,qc h]
  apply zuD;simp only [zmt];rw [qb (by simpa using h1),zd h1];simp only [qa,zg,zkI c[i].2.1 c[i].2.2.1 (by omega),zCm c[i] hx o (by omega),hcp]
  cases hp:c[i].1 with
  | true=>
   simp only [qn,qg,qe]
   cases ha:o.any (sameL c[i]) with
   | true=>
    simp only [qn,qg,qe,qa,qd];rw [zb (by omega)]
    exact skip (.inr ha)
   | false=>
    simp only [qU,qf,zg];rw [qb (by simp;omega)];simp only [qa,qd];rw [zb (by omega)]
    exact take (fun h=>by rcases h with h | h;exact absurd h.1 (by simp [hp]);exact absurd h (by simp [ha]))
  | false=>
   simp only [qU,qf];by_cases he:c[i].2.1=c[i].2.2.1
   ·simp only [qp he,qf,qa,qd];rw [zb (by omega)];exact skip (.inl ⟨hp,he⟩)
   ·simp only [qr he,qg,qe]
    cases ha:o.any (sameL c[i]) with
    | true=>
     simp only [qn,qg,qe,qa,qd];rw [zb (by omega)]
     exact skip (.inr ha)
    | false=>
     simp only [qU,qf,zg];rw [qb (by simp;omega)];simp only [qa,qd];rw [zb (by omega)];exact take (fun h=>by rcases h with h | h;exact he h.2;exact absurd h (by simp [ha]))
theorem zJO (c:List TLit) (hl:c.length<=1000) (hc: ∀x∈c,smL x):zrt M c=some ((td [] c,()),()):=by
 apply zDz;have:=zDR c hl hc c.length 0 [] (by omega) (by simp);rw [show ((0:Nat):Int)=0 from rfl,qk] at this;simp only [zu1,this,qa,qd]
theorem zJB (o:List TLit) (x:TLit) (c:List TLit) (N I:Int) (hx:smL x) (ho:o.length<=100000): ∀(k i:Nat) (b:Bool),i+k=o.length->zbV M o x b c N I o.length i=some (.inl (o,x,(b || (o.drop i).any (sameL x)),c,N,I,())):=by
 intro k
 induction k with
 | zero=>
  intro i b hi;obtain rfl:i=o.length:=by omega
  apply zpi;simp only [zhe,zg];rw [qc (by simp)]
  simp
 | succ k ih=>
  intro i b hi;have h1:i<o.length:=by omega
  apply zpi;simp only [zhe];rw [qb (by simpa using h1),qb (by omega),qo,qv h1,zb (by omega)];simp only [qa,zg,(zuU x o[i] hx).2,ih (i+1) _ (by omega)];rw [qj h1,List.any_cons];have:sameL x o[i]=(x.1==o[i].1&&sameT x o[i]):=rfl;rw [this]
  cases b with
  | true=>simp
  | false=>
   simp only [qg,qe,Bool.false_or];cases x.1==o[i].1<;>simp
theorem zBJ (c:List TLit) (hl:c.length<=1000) (hc: ∀x∈c,smL x): ∀(k i:Nat) (o:List TLit),i+k=c.length->o.length<=i->zez M o c c.length i=some (.inl (td o (c.drop i),())):=by
 intro k
 induction k with
 | zero=>
  intro i o hi ho;obtain rfl:i=c.length:=by omega
  apply zs4
  simp [zkh,td]
 | succ k ih=>
  intro i o hi ho;have h1:i<c.length:=by omega
  have hx:=hc _ (qi h1);have hx1:=hx.1;have hx2:=hx.2;have hin:=zJB o c[i] c c.length i hx (by omega) o.length 0 false (by omega);rw [show ((0:Nat):Int)=0 from rfl,qk,Bool.false_or] at hin;rw [qj h1]
  have skip:((c[i].1=false∧c[i].2.1=c[i].2.2.1)∨o.any (sameL c[i])=true)->zez M o c c.length ((i+1:Nat):Int)=some (.inl (td o (c[i]::c.drop (i+1)),())):=by
   intro h;rw [ih (i+1) o (by omega) (by omega),td,qb h]
  have take: ¬((c[i].1=false∧c[i].2.1=c[i].2.2.1)∨o.any (sameL c[i])=true)->zez M (o++ [c[i]]) c c.length ((i+1:Nat):Int)=some (.inl (td o (c[i]::c.drop (i+1)),())):=by
   intro h;rw [ih (i+1) _ (by omega) (by simp;omega),td,qc h]
  apply zs4;simp only [zkh];rw [qb (by simpa using h1),zd h1];simp only [qa,zg,zis c[i].2.1 c[i].2.2.1 (by omega),hin,qd]
  cases hp:c[i].1 with
  | true=>
   simp only [qn,qg,qe]
   cases ha:o.any (sameL c[i]) with
   | true=>
    simp only [qn,qg,qe,qa,qd];rw [zb (by omega)]
    exact skip (.inr ha)
   | false=>
    simp only [qU,qf,zg];rw [qb (by simp;omega)];simp only [qa,qd];rw [zb (by omega)];have:=take (fun h=>by rcases h with h | h;exact absurd h.1 (by simp [hp]);exact absurd h (by simp [ha]))
    exact this
  | false=>
   simp only [qU,qf];by_cases he:c[i].2.1=c[i].2.2.1
   ·simp only [qp he,qf,qa,qd];rw [zb (by omega)];exact skip (.inl ⟨hp,he⟩)
   ·simp only [qr he,qg,qe]
    cases ha:o.any (sameL c[i]) with
    | true=>
     simp only [qn,qg,qe,qa,qd];rw [zb (by omega)]
     exact skip (.inr ha)
    | false=>
     simp only [qU,qf,zg];rw [qb (by simp;omega)];simp only [qa,qd];rw [zb (by omega)];have:=take (fun h=>by rcases h with h | h;exact he h.2;exact absurd h (by simp [ha]));exact this
theorem zwt (c:List TLit) (hl:c.length<=1000) (hc: ∀x∈c,smL x): ∀k i:Nat,i+k=c.length-> ∀o:List TLit,o.length=i->zjD M o c c.length i=some (.inl (o++c.drop i,())):=by
 intro k
 induction k with
 | zero=>
  intro i hi o ho;obtain rfl:i=c.length:=by omega
  apply zuf
  simp [zlD]
 | succ k ih=>
  intro i hi o ho;have h1:i<c.length:=by omega
  have h2:=hc _ (qi h1);apply zuf;simp only [zlD];rw [qb (by simpa using h1),zd h1,zb (by omega)];simp only [qa,ziu c[i].2.1 h2.1,ziu c[i].2.2.1 h2.2];rw [qb (by simp;omega),zg,ih (i+1) (by omega) _ (by simp [ho]),qj h1,qE];rfl
theorem zvD: ∀(c o:List TLit),∀x∈td o c,x∈o∨x∈c
 | [],o,x,h=> .inl h
 | y::c,o,x,h=>by
  simp only [td] at h;split at h
  ·rcases zvD c o x h with q | q
   ·exact .inl q
   ·exact .inr (qm _ q)
  ·rcases zvD c _ x h with q | q
   ·rcases qt.1 q with q | q
    ·exact .inl q
    ·exact .inr (by rw [qM.1 q];exact qu ..)
   ·exact .inr (qm _ q)
theorem zwW: ∀(c o:List TLit),(td o c).length<=o.length+c.length
 | [],o=>by simp [td]
 | y::c,o=>by
  simp only [td];split
  ·have:=zwW c o;simp;omega
  ·have:=zwW c (o++ [y]);simp at this ⊢; omega
theorem zIa (c:List TLit) (hl:c.length<=1000) (hc: ∀x∈c,smL x):zor M c=some ((td [] c,()),()):=by
 apply zBU;have:=zBJ c hl hc c.length 0 [] (by omega) (by simp);rw [show ((0:Nat):Int)=0 from rfl,qk] at this;have h2:=zwW c [];have ow:=zwt (td [] c) (by simp at h2;omega) (fun x hx=>by rcases zvD c [] x hx with q | q;cases q;exact hc x q) (td [] c).length 0 (by omega) [] rfl;rw [show ((0:Nat):Int)=0 from rfl,qk,qB] at ow
 have ow':zio M (td [] c)=some ((td [] c,()),()):=by
  apply zxa;simp only [zqa,ow,qa,qd]
 simp only [zsu,this,qa,qd,ow']
theorem zDO (v:Int) (a:List Int) (ha:a.length<=100000): ∀k i:Nat,i+k=a.length->zhg M v a a.length i=some (if v∈a.drop i then .inr ((true,()),()) else .inl ()):=by
 intro k
 induction k with
 | zero=>
  intro i hi;obtain rfl:i=a.length:=by omega
  exact zlA _ _ _ _ (by simp [zgj])
 | succ k ih=>
  intro i hi;have h1:i<a.length:=by omega
  rw [qj h1];apply zlA;simp only [zgj];rw [qb (by simpa using h1),zd h1,zb (by omega)];simp only [qa];by_cases h:a[i]=v
  ·rw [qb (by simpa using h),qb (by rw [h];exact qu ..)]
  ·rw [qc (by simpa using h),ih (i+1) (by omega)];by_cases h2:v∈a.drop (i+1)
   ·rw [qb h2,qb (qm _ h2)]
   ·rw [qc h2,qc (fun h3=>by rcases qA.1 h3 with e | e;exact h e.symm;exact h2 e)]
theorem zJG (a:List Int) (v:Int) (ha:a.length<=100000):zfz M a v=some ((decide (v∈a),()),()):=by
 apply zxs;have:=zDO v a ha a.length 0 (by omega);rw [show ((0:Nat):Int)=0 from rfl,qk] at this;simp only [zpU,this,qa];by_cases h:v∈a
 ·rw [qb h,qp h];rfl
 ·rw [qc h,qr h];rfl
def mkM:Nat->List Int->List (Int×Int)
 | _,[]=> []
 | i,n::r=>(n,-1-(i:Int))::mkM (i+1) r
theorem zEl: ∀(m:List Int) (i:Nat),(mkM i m).length=m.length
 | [],_=>rfl
 | n::r,i=>by simp [mkM,zEl r]
theorem zDo (n:Int): ∀(m:List Int) (i:Nat),mhas (mkM i m) n=decide (n∈m)
 | [],i=>by simp [mkM,mhas]
 | a::r,i=>by
  simp only [mkM,mhas,zDo n r];by_cases h:a=n
  ·simp [h]
  ·rw [qc h];have: ¬n=a:=fun e=>h e.symm
   simp [this]
theorem zCU (n:Int): ∀(m:List Int) (i:Nat),n∉m->mput (mkM i m) n (-1-((i+m.length:Nat):Int))=mkM i (m++ [n])
 | [],i,_=>by simp [mkM,mput]
 | a::r,i,h=>by
  have h1: ¬a=n:=fun e=>h (by simp [e])
  simp only [mkM,mput,qc h1,qY];rw [<-zCU n r (i+1) (fun q=>h (qm _ q))];congr 2;simp;omega
def addN (m:List Int) (n:Int):List Int:=if n<0∧n∉m then m++ [n] else m
theorem zAD (m:List Int) {n:Int} (hn:n<0):nmb (mkM 0 m) n=mkM 0 (addN m n):=by
 unfold nmb addN;rw [zDo,zEl];by_cases h:n∈m
 ·rw [qb (by simpa using h),qc (fun q=>q.2 h)]
 ·rw [qc (by simpa using h),qb ⟨hn,h⟩];have:=zCU n m 0 h;rw [qI] at this;exact this
theorem zHe {m:List Int} (h: ∀x∈m,x<0) (n:Int): ∀x∈addN m n,x<0:=by
 intro x hx;unfold addN at hx;split at hx
 ·rename_i q;rcases qt.1 hx with hx | hx
  ·exact h x hx
  ·rw [qM.1 hx];exact q.1
 ·exact h x hx
theorem zHp (m:List Int) (n:Int):(addN m n).length<=m.length+1:=by
 unfold addN;split<;>simp
theorem zy0 (m:List Int) {n:Int} (hn:n<0):n∈addN m n:=by
 unfold addN;by_cases h:n∈m
 ·rw [qc (fun q=>q.2 h)];exact h
 ·rw [qb ⟨hn,h⟩];simp
theorem zHQ (met:List Int) (outs:List (List Int)) (x:List Int) (n:Int) (l:List (List Int)) (N I:Int) (t:List Int) (T j:Int) (hm:met.length<=100000): ∀k i:Nat,i+k=met.length->zbs M met outs x n l N I t T j met.length i=some (.inl (met,outs,x,(if n∈met.drop i then mget (mkM i (met.drop i)) n 0 else n),l,N,I,t,T,j,())):=by
 intro k
 induction k with
 | zero=>
  intro i hi;obtain rfl:i=met.length:=by omega
  apply zlY;simp only [zem]
  rw [qc (by simp),qG,qc (by simp)]
 | succ k ih=>
  intro i hi;have h1:i<met.length:=by omega
  apply zlY;simp only [zem];rw [qb (by simpa using h1),qb (by omega),qo,qv h1];simp only [qa];rw [qj h1];by_cases h:met[i]=n
  ·rw [qb (by simpa using h),qb (by rw [h];exact qu ..),mkM,mget,qb h,w64 (by omega) (by omega)]
  ·rw [qc (by simpa using h),zb (by omega),ih (i+1) (by omega),mkM,mget,qc h];by_cases h2:n∈met.drop (i+1)
   ·rw [qb h2,qb (qm _ h2)]
   ·rw [qc h2,qc (fun q=>by rcases qA.1 q with e | e;exact h e.symm;exact h2 e)]
theorem zHB (outs:List (List Int)) (l:List (List Int)) (N I:Int) (t:List Int) (ht:t.length<=1000): ∀(k j:Nat) (met x:List Int),j+k=t.length->met.length<=40000+j->x.length<=40000+j->(∀y∈met,y<0)-> ∃met':List Int,zcJ M met outs x l N I t t.length j=some (.inl (met',outs,x++(rnm (mkM 0 met) (t.drop j)).1,l,N,I,()))∧(rnm (mkM 0 met) (t.drop j)).2=mkM 0 met'∧(∀y∈met',y<0)∧met'.length<=met.length+k:=by
 intro k
 induction k with
 | zero=>
  intro j met x hj hm hx hneg;obtain rfl:j=t.length:=by omega
  refine ⟨met,zjc _ _ _ _ _ _ _ _ _ ?_,by simp [rnm],hneg,by omega⟩;simp only [zdE];rw [qc (by simp),qG]
  simp [rnm]
 | succ k ih=>
  intro j met x hj hm hx hneg;have h1:j<t.length:=by omega
  rw [qj h1]
  have name: ∀met2:List Int,met2.length<=40000+(j+1)-> ∀T:Int,zbs M met2 outs x t[j] l N I t T j met2.length 0=some (.inl (met2,outs,x,(if t[j]∈met2 then mget (mkM 0 met2) t[j] 0 else t[j]),l,N,I,t,T,j,())):=by
   intro met2 h T;have:=zHQ met2 outs x t[j] l N I t T j (by omega) met2.length 0 (by omega);rw [show ((0:Nat):Int)=0 from rfl,qk] at this;exact this
  by_cases hn:t[j]<0
  ·have hl:=zHp met t[j];obtain ⟨met',e1,e2,e3,e4⟩:=ih (j+1) (addN met t[j]) (x++ [mget (mkM 0 (addN met t[j])) t[j] 0]) (by omega) (by omega) (by simp;omega) (zHe hneg _)
   have hr:rnm (mkM 0 met) (t[j]::t.drop (j+1))=(mget (mkM 0 (addN met t[j])) t[j] 0::(rnm (mkM 0 (addN met t[j])) (t.drop (j+1))).1,(rnm (mkM 0 (addN met t[j])) (t.drop (j+1))).2):=by
    simp only [rnm];rw [qc (by omega),zAD met hn]
   refine ⟨met',zjc _ _ _ _ _ _ _ _ _ ?_,by rw [hr];exact e2,e3,by omega⟩;simp only [zdE];rw [qb (by simpa using h1),zd h1];simp only [qa];rw [qb (by simpa using hn)];have hh:=zJG met t[j] (by omega)
   have fin: ∀met2:List Int,met2=addN met t[j]->(zbs M met2 outs x t[j] l N I t (t.length:Int) j met2.length 0).bind (Sum.elim (fun y4=>if (y4.2.2.1.length+ [y4.2.2.2.1].length)*8<=140737488355328 then zcJ M y4.1 y4.2.1 (y4.2.2.1++ [y4.2.2.2.1]) y4.2.2.2.2.1 y4.2.2.2.2.2.1 y4.2.2.2.2.2.2.1 y4.2.2.2.2.2.2.2.1 y4.2.2.2.2.2.2.2.2.1 (IntKind.i64.wrap (y4.2.2.2.2.2.2.2.2.2.1+1)) else none) fun r5=>some (.inr r5))=some (.inl (met',outs,x++(rnm (mkM 0 met) (t[j]::t.drop (j+1))).1,l,N,I,())):=by
    intro met2 e;subst e;rw [name _ (by omega)];simp only [qa,qd];rw [qb (zy0 met hn),qb (by simp only [qD,qR];omega),zb (by omega),e1,hr];simp
   rw [hh];simp only [qa];by_cases hmem:t[j]∈met
   ·rw [qc (by simp [hmem])];simp only [qa,qd];exact fin met (by unfold addN;rw [qc (fun q=>q.2 hmem)])
   ·rw [qb (by simp [hmem]),qb (by simp only [qD,qR];omega)];simp only [qa,qd];exact fin (met++ [t[j]]) (by unfold addN;rw [qb ⟨hn,hmem⟩])
  ·have hnm:t[j]∉met:=fun q=>hn (hneg _ q)
   obtain ⟨met',e1,e2,e3,e4⟩:=ih (j+1) met (x++ [t[j]]) (by omega) (by omega) (by simp;omega) hneg
   have hr:rnm (mkM 0 met) (t[j]::t.drop (j+1))=(t[j]::(rnm (mkM 0 met) (t.drop (j+1))).1,(rnm (mkM 0 met) (t.drop (j+1))).2):=by
    simp only [rnm];rw [qb (by omega)]
   refine ⟨met',zjc _ _ _ _ _ _ _ _ _ ?_,by rw [hr];exact e2,e3,by omega⟩;simp only [zdE];rw [qb (by simpa using h1),zd h1];simp only [qa];rw [qc (by simpa using hn)];simp only [qa,qd];rw [name met (by omega)];simp only [qa,qd];rw [qc hnm,qb (by simp only [qD,qR];omega),zb (by omega),e1,hr];simp
theorem zHJ (l:List (List Int)) (hl:l.length<=40) (hx: ∀t∈l,t.length<=1000): ∀(k i:Nat) (met:List Int) (outs:List (List Int)),i+k=l.length->met.length<=1000*i->outs.length=i->(∀y∈met,y<0)->zfW M met outs l l.length i=some (.inl (outs++rnL (mkM 0 met) (l.drop i),())):=by
 intro k
 induction k with
 | zero=>
  intro i met outs hi hm ho hneg;obtain rfl:i=l.length:=by omega
  apply zpA;simp only [zh3];rw [qc (by simp),qG]
  simp [rnL]
 | succ k ih=>
  intro i met outs hi hm ho hneg;have h1:i<l.length:=by omega
  have ht:=hx _ (qi h1);obtain ⟨met',e1,e2,e3,e4⟩:=zHB outs l l.length i l[i] ht l[i].length 0 met [] (by omega) (by omega) (by simp) hneg;rw [show ((0:Nat):Int)=0 from rfl] at e1;rw [qk] at e1 e2;apply zpA;simp only [zh3];rw [qb (by simpa using h1),zd h1];simp only [qa,e1,qd,qB];rw [qb (by simp only [qD,qR];omega),zb (by omega),ih (i+1) met' _ (by omega) (by omega) (by simp [ho]) e3,qj h1,rnL,e2,qE];rfl
theorem zFb (l:List (List Int)) (hl:l.length<=40) (hx: ∀t∈l,t.length<=1000):zmu M l=some ((rnL [] l,()),()):=by
 apply zzs;have:=zHJ l hl hx l.length 0 [] [] (by omega) (by simp) rfl (by simp);rw [show ((0:Nat):Int)=0 from rfl,qk,qB] at this;simp only [zp4,this,qa,qd];rfl
theorem zAu (c:List TLit) (hc:c.length<=1048576): ∀k i:Nat,i+k=c.length-> ∀o:List (List Int),o.length<=2*i->zhD M o c c.length i=some (.inl (o++tms (c.drop i),())):=by
 intro k
 induction k with
 | zero=>
  intro i hi o ho;obtain rfl:i=c.length:=by omega
  exact zr2 _ _ _ _ (by simp [zjC,tms])
 | succ k ih=>
  intro i hi o ho;have h1:i<c.length:=by omega
  apply zr2;simp only [zjC];rw [qb (by simpa using h1),zd h1];simp only [qa];rw [qb (by simp;omega),zb (by omega),ih (i+1) (by omega) _ (by simp;omega),qj h1];have:tms (c[i]::c.drop (i+1))= [c[i].2.1,c[i].2.2.1]++tms (c.drop (i+1)):=rfl;rw [this,qE]
theorem zGE (c:List TLit) (hc:c.length<=1048576):zns M c=some ((tms c,()),()):=by
 apply zAi;have:=zAu c hc c.length 0 (by omega) [] (by simp);rw [show ((0:Nat):Int)=0 from rfl] at this;simp only [zrh,this,qa,qd,qB,qk]
theorem zxW: ∀(l:List (List Int)) (m:List (Int×Int)),(rnL m l).length=l.length
 | [],_=>rfl
 | t::r,m=>by simp [rnL,zxW r]
theorem zzm (ts:List (List Int)) (c:List TLit) (hl:c.length<=1000) (ht:ts.length=2*c.length): ∀k i:Nat,i+k=c.length-> ∀o:List TLit,o.length=i->zfV M ts o c c.length i=some (.inl (o++wtZ (c.drop i) (ts.drop (2*i)),())):=by
 intro k
 induction k with
 | zero=>
  intro i hi o ho;obtain rfl:i=c.length:=by omega
  apply zp6;simp only [zid];rw [qc (by simp),qG]
  simp [wtZ]
 | succ k ih=>
  intro i hi o ho;have h1:i<c.length:=by omega
  have h2:2*i<ts.length:=by omega
  have h3:2*i+1<ts.length:=by omega
  have e1:IntKind.i64.wrap ((2:Int)*(i:Int))=((2*i:Nat):Int):=by rw [w64 (by omega) (by omega)];omega
  have e2:IntKind.i64.wrap (((2*i:Nat):Int)+1)=((2*i+1:Nat):Int):=by rw [w64 (by omega) (by omega)];omega
  apply zp6;simp only [zid];rw [qb (by simpa using h1),zd h1,e1,e2];simp only [qa];rw [qb (by omega),qo,qv h2];simp only [qa];rw [qb (by omega),qo,qv h3];simp only [qa];rw [qb (by simp;omega),zb (by omega),ih (i+1) (by omega) _ (by simp [ho]),qj h1,qj h2,qj h3];simp only [wtZ,qE,List.singleton_append];rw [show 2*(i+1)=2*i+1+1 by omega]
def rnC (c:List TLit):List TLit:=wtZ c (rnL [] (tms c))
theorem zw7 (c:List TLit) (hl:c.length<=20) (hc: ∀x∈c,x.2.1.length<=1000∧x.2.2.1.length<=1000):ziX M c=some ((rnC c,()),())∧zg3 M c=some ((rnC c,()),()):=by
 have ht: ∀t∈tms c,t.length<=1000:=by
  intro t ht;obtain ⟨x,hx,h⟩:=zdb.1 ht;rcases h with rfl | rfl
  ·exact (hc x hx).1
  ·exact (hc x hx).2
 have hL:=zkE c;refine ⟨zwA _ ?_,zzI _ ?_⟩
 ·simp only [zmf,zpn c (by omega),zHE (tms c) (by omega) ht,qa];rw [zrm c _ (by omega) (by rw [zxW];omega)];rfl
 ·have:=zzm (rnL [] (tms c)) c (by omega) (by rw [zxW];omega) c.length 0 (by omega) [] rfl;rw [show ((0:Nat):Int)=0 from rfl] at this;simp only [Nat.mul_zero,qk,qB] at this;simp only [zpQ,zGE c (by omega),zFb (tms c) (by omega) ht,qa,this,qd];rfl
def outC (c:List TLit):List TLit:=rnC (td [] c)
theorem zjZ (c:List TLit) (hl:c.length<=20) (hc: ∀x∈c,x.2.1.length<=1000∧x.2.2.1.length<=1000):zdv M c=some ((outC c,()),())∧zbo M c=some ((outC c,()),()):=by
 have hs: ∀x∈c,smL x:=fun x hx=>⟨by have:=(hc x hx).1;omega,by have:=(hc x hx).2;omega⟩
 have h2:=zwW c [];have hr:=zw7 (td [] c) (by simp at h2;omega) (fun x hx=>by rcases zvD c [] x hx with q | q;cases q;exact hc x q);refine ⟨zze _ ?_,zCH _ ?_⟩
 ·simp only [zoY,zJO c (by omega) hs,qa,hr.1];rfl
 ·simp only [zt0,zIa c (by omega) hs,qa,hr.2];rfl
theorem zwU {left:List (List Int)} {j:Nat} (hj:j<left.length) (s:List Int):left.count s=(left.take j++left.drop (j+1)).count s+(if left[j]=s then 1 else 0):=by
 have e:left=left.take j++left[j]::left.drop (j+1):=by rw [List.getElem_cons_drop,qX]
 have h:=congrArg (List.count s) e;rw [h,List.count_append,List.count_append,List.count_cons];by_cases q:left[j]=s<;>simp [q]<;>omega
def smR (l:List (List Int)):Prop:=l.length<=100∧ ∀t∈l,smT t
theorem zG2 (left o a:List (List Int)) (t:List Int) (N I:Int) (hl:smR left) (ht:smT t): ∀(k i:Nat) (at':Int),i+k=left.length-> ∃z:Int,zfD M left o t at' a N I left.length i=some (.inl (left,o,t,z,a,N,I,()))∧((z=at'∧ ∀s∈left.drop i,s≠t)∨ ∃j:Nat,∃h:j<left.length,z=j∧left[j]=t):=by
 intro k
 induction k with
 | zero=>
  intro i at' hi;obtain rfl:i=left.length:=by omega
  refine ⟨at',zkG _ _ _ _ _ _ _ _ _ ?_,.inl ⟨rfl,by simp⟩⟩;simp only [zeL]
  rw [qc (by simp)]
 | succ k ih=>
  intro i at' hi;have h1:i<left.length:=by omega
  have h2:=(hl.2 _ (qi h1)).1;have h3:=ht.1;have h4:=hl.1;by_cases h:t=left[i]
  ·obtain ⟨z,hz,hd⟩:=ih (i+1) i (by omega);refine ⟨z,zkG _ _ _ _ _ _ _ _ _ ?_,?_⟩
   ·simp only [zeL];rw [qb (by simpa using h1),qb (by omega),qo,qv h1];simp only [qa,zis t left[i] (by omega),qp h,qf,qd];rw [zb (by omega)];exact hz
   ·rcases hd with ⟨rfl,_⟩ | h'
    ·exact .inr ⟨i,h1,rfl,h.symm⟩
    ·exact .inr h'
  ·obtain ⟨z,hz,hd⟩:=ih (i+1) at' (by omega);refine ⟨z,zkG _ _ _ _ _ _ _ _ _ ?_,?_⟩
   ·simp only [zeL];rw [qb (by simpa using h1),qb (by omega),qo,qv h1];simp only [qa,zis t left[i] (by omega),qr h,qg,qe,qd];rw [zb (by omega)];exact hz
   ·rcases hd with ⟨rfl,h'⟩ | h'
    ·refine .inl ⟨rfl,?_⟩;rw [qj h1];intro s hs;rcases qA.1 hs with rfl | hs
     ·exact fun e=>h e.symm
     ·exact h' s hs
    ·exact .inr h'
theorem smR.cut {left:List (List Int)} (h:smR left) (j:Nat):smR (left.take j++left.drop (j+1)):=by
 refine ⟨by have:=h.1;simp;omega,fun t ht=>h.2 t ?_⟩;rcases qt.1 ht with q | q
 ·exact List.mem_of_mem_take q
 ·exact List.mem_of_mem_drop q
theorem smR.tail {a:List (List Int)} (h:smR a) (i:Nat):smR (a.drop i):=⟨by have:=h.1;simp;omega,fun t ht=>h.2 t (List.mem_of_mem_drop ht)⟩
theorem zJx (a:List (List Int)) (ha:smR a): ∀(k i:Nat) (left o:List (List Int)),i+k=a.length->smR left->o.length<=i-> ∃x:List (List Int),zhJ M left o a a.length i=some (.inl (o++x,()))∧ ∀s,x.count s=(a.drop i).count s-left.count s:=by
 intro k
 induction k with
 | zero=>
  intro i left o hi hl ho;obtain rfl:i=a.length:=by omega
  refine ⟨[],zm9 _ _ _ _ _ ?_,by simp⟩;simp only [zgO]
  rw [qc (by simp),qO]
 | succ k ih=>
  intro i left o hi hl ho;have h1:i<a.length:=by omega
  have h4:=ha.1;have h5:=hl.1;obtain ⟨z,hz,hd⟩:=zG2 left o a a[i] a.length i hl (ha.2 _ (qi h1)) left.length 0 (-1) (by omega);rw [show ((0:Nat):Int)=0 from rfl] at hz;rw [qk] at hd;by_cases hneg:z<0
  ·have hn: ∀s∈left,s≠a[i]:=by
    rcases hd with ⟨_,h⟩ | ⟨j,h,rfl,_⟩
    ·exact h
    ·omega
   obtain ⟨x,hx,hc⟩:=ih (i+1) left (o++ [a[i]]) (by omega) hl (by simp;omega);refine ⟨a[i]::x,zm9 _ _ _ _ _ ?_,fun s=>?_⟩
   ·simp only [zgO];rw [qb (by simpa using h1),zd h1];simp only [qa,hz,qd];rw [qb (by simpa using hneg),qb (by simp only [qD,qR];omega)];simp only [qa,qd];rw [zb (by omega),hx];simp
   ·rw [qj h1,List.count_cons,List.count_cons,hc s];by_cases e:a[i]=s
    ·subst e;rw [List.count_eq_zero_of_not_mem (fun h=>hn _ h rfl)];simp
    ·simp [e]
  ·obtain ⟨j,hj,rfl,hjt⟩: ∃j:Nat,∃h:j<left.length,z=j∧left[j]=a[i]:=by
    rcases hd with ⟨rfl,_⟩ | h
    ·omega
    ·exact h
   obtain ⟨x,hx,hc⟩:=ih (i+1) (left.take j++left.drop (j+1)) o (by omega) (hl.cut j) (by omega);refine ⟨x,zm9 _ _ _ _ _ ?_,fun s=>?_⟩
   ·simp only [zgO];rw [qb (by simpa using h1),zd h1];simp only [qa,hz,qd];rw [qc (by simp),qb (by omega),zb (by omega)];simp only [qo,Int.toNat_zero,qk,qB,List.take_length,qR,qI];rw [qb (by simp;omega),qb (by omega),qb (by simp;omega)];simp only [qa,qd];rw [zb (by omega),hx]
   ·have hcut:=zwU hj s;rw [hjt] at hcut;rw [qj h1,List.count_cons,hc s,hcut];by_cases e:a[i]=s<;>simp [e]<;>omega
theorem zCd (a b:List (List Int)) (ha:smR a) (hb:smR b): ∃x:List (List Int),zlO M a b=some ((x,()),())∧ ∀s,x.count s=a.count s-b.count s:=by
 obtain ⟨x,hx,hc⟩:=zJx a ha a.length 0 b [] (by omega) hb (by simp);rw [show ((0:Nat):Int)=0 from rfl] at hx;refine ⟨x,zBQ _ _ ?_,fun s=>by rw [hc s,qk]⟩;simp only [zsn];rw [qb (by have:=hb.1;simp;omega)];simp only [qB] at hx ⊢;rw [hx];rfl
theorem zIi (u t:List Int) (ht:smT t) (hu:smT u):zgW M u t=some ((decide (t=u),()),()):=by
 apply zve;simp only [zk5,zkI t u (by have:=ht.1;omega),qa]
theorem zJA (t:List Int) (ht:smT t) (y:List (List Int)) (hy:smR y): ∀k i:Nat,i+k=y.length->(zi M y (t,()) y.length i=some (.inl ())∧ ∀s∈y.drop i,s≠t)∨ ∃j:Nat,∃h:j<y.length,zi M y (t,()) y.length i=some (.inr (((j:Int),()),()))∧y[j]=t:=by
 intro k
 induction k with
 | zero=>
  intro i hi;obtain rfl:i=y.length:=by omega
  refine .inl ⟨zbb _ _ _ _ ?_,by simp⟩;simp only [zM]
  rw [qc (by simp)]
 | succ k ih=>
  intro i hi;have h1:i<y.length:=by omega
  have h2:=hy.2 _ (qi h1);have h4:=hy.1;by_cases h:t=y[i]
  ·refine .inr ⟨i,h1,zbb _ _ _ _ ?_,h.symm⟩;simp only [zM];rw [qb (by simpa using h1),zd h1];simp only [qa,zIi y[i] t ht h2,qp h,qf]
  ·have step: ∀r,zi M y (t,()) y.length ((i+1:Nat):Int)=some r->zi M y (t,()) y.length i=some r:=by
    intro r hr;apply zbb;simp only [zM];rw [qb (by simpa using h1),zd h1,zb (by omega)];simp only [qa,zIi y[i] t ht h2,qr h,qg,qe];exact hr
   rcases ih (i+1) (by omega) with ⟨q,hq⟩ | ⟨j,hj,q,hq⟩
   ·refine .inl ⟨step _ q,?_⟩;rw [qj h1];intro s hs;rcases qA.1 hs with rfl | hs
    ·exact fun e=>h e.symm
    ·exact hq s hs
   ·exact .inr ⟨j,hj,step _ q,hq⟩
theorem zI6 (t:List Int) (ht:smT t) (y:List (List Int)) (hy:smR y):(z9 M y (t,())=some ((-1,()),())∧ ∀s∈y,s≠t)∨ ∃j:Nat,∃h:j<y.length,z9 M y (t,())=some (((j:Int),()),())∧y[j]=t:=by
 rcases zJA t ht y hy y.length 0 (by omega) with ⟨q,hq⟩ | ⟨j,hj,q,hq⟩
 ·rw [show ((0:Nat):Int)=0 from rfl] at q;exact .inl ⟨zc0 _ _ (by simp only [zaG,q,qa,qd]),by simpa using hq⟩
 ·rw [show ((0:Nat):Int)=0 from rfl] at q;exact .inr ⟨j,hj,zc0 _ _ (by simp only [zaG,q,qa,qF]),hq⟩
theorem zGO (a:List (List Int)) (ha:smR a): ∀(k i:Nat) (left o:List (List Int)),i+k=a.length->smR left->o.length<=i-> ∃x y:List (List Int),zdI M o left a a.length i=some (.inl (o++x,y,()))∧(∀s,x.count s=(a.drop i).count s-left.count s)∧ ∀s,y.count s=left.count s-(a.drop i).count s:=by
 intro k
 induction k with
 | zero=>
  intro i left o hi hl ho;obtain rfl:i=a.length:=by omega
  refine ⟨[],left,ziI _ _ _ _ _ ?_,by simp,by simp⟩;simp only [zdh]
  rw [qc (by simp),qO]
 | succ k ih=>
  intro i left o hi hl ho;have h1:i<a.length:=by omega
  have h4:=ha.1;have h5:=hl.1;rcases zI6 a[i] (ha.2 _ (qi h1)) left hl with ⟨hz,hn⟩ | ⟨j,hj,hz,hjt⟩
  ·obtain ⟨x,y,hx,hc,hc'⟩:=ih (i+1) left (o++ [a[i]]) (by omega) hl (by simp;omega);refine ⟨a[i]::x,y,ziI _ _ _ _ _ ?_,fun s=>?_,fun s=>?_⟩
   ·simp only [zdh];rw [qb (by simpa using h1),zd h1];simp only [qa,hz];rw [qc (by simp),qb (by simp only [qD,qR];omega)];simp only [qa,qd];rw [zb (by omega),hx];simp
   ·rw [qj h1,List.count_cons,List.count_cons,hc s];by_cases e:a[i]=s
    ·subst e;rw [List.count_eq_zero_of_not_mem (fun h=>hn _ h rfl)];simp
    ·simp [e]
   ·rw [qj h1,List.count_cons,hc' s];by_cases e:a[i]=s
    ·subst e;rw [List.count_eq_zero_of_not_mem (fun h=>hn _ h rfl)];simp
    ·simp [e]
  ·obtain ⟨x,y,hx,hc,hc'⟩:=ih (i+1) (left.take j++left.drop (j+1)) o (by omega) (hl.cut j) (by omega)
   have hdel:zeo M left (j:Int) (IntKind.i64.wrap ((j:Int)+1))=some ((left.take j++left.drop (j+1),()),()):=by
    apply zsq;rw [zb (by omega)];simp only [zhq];rw [qb ⟨by omega,by omega,by omega⟩,qo,qo]
   refine ⟨x,y,ziI _ _ _ _ _ ?_,fun s=>?_,fun s=>?_⟩
   ·simp only [zdh];rw [qb (by simpa using h1),zd h1];simp only [qa,hz];rw [qb (by simp),hdel];simp only [qa,qd];rw [zb (by omega),hx]
   ·have hcut:=zwU hj s;rw [hjt] at hcut;rw [qj h1,List.count_cons,hc s,hcut];by_cases e:a[i]=s<;>simp [e]<;>omega
   ·have hcut:=zwU hj s;rw [hjt] at hcut;rw [qj h1,List.count_cons,hc' s,hcut];by_cases e:a[i]=s<;>simp [e]<;>omega
def cov (a b:List (List Int)):Bool:=b.all (fun t=>a.any fun u=>gtT u t)&&decide (0<a.length)
theorem zG1 (a b:List (List Int)) (t:List Int) (N I:Int) (ha:smR a) (ht:smT t): ∀(k i:Nat) (o:Bool),i+k=a.length->zdZ M a t o b N I a a.length i=some (.inl (a,(o || (a.drop i).any fun u=>gtT u t),b,N,I,())):=by
 intro k
 induction k with
 | zero=>
  intro i o hi;obtain rfl:i=a.length:=by omega
  apply zpP;simp only [zhV];rw [qc (by simp)]
  simp
 | succ k ih=>
  intro i o hi;have h1:i<a.length:=by omega
  have h4:=ha.1;apply zpP;simp only [zhV];rw [qb (by simpa using h1),zd h1,zb (by omega)];rw [qj h1,List.any_cons]
  cases o with
  | true=>
   simp only [qa,qf];rw [ih (i+1) true (by omega)]
   simp
  | false=>
   simp only [qa,qg,qe,zrk a[i] t (ha.2 _ (qi h1)) ht];rw [ih (i+1) _ (by omega)];simp
theorem zEw (a b:List (List Int)) (ha:smR a) (hb:smR b): ∀(k i:Nat),i+k=b.length->ziG M a b b.length i=some (if (b.drop i).all (fun t=>a.any fun u=>gtT u t)=true then .inl (a,()) else .inr ((false,()),())):=by
 intro k
 induction k with
 | zero=>
  intro i hi;obtain rfl:i=b.length:=by omega
  apply zsU;simp only [zkA];rw [qc (by simp)]
  simp
 | succ k ih=>
  intro i hi;have h1:i<b.length:=by omega
  have h4:=hb.1;have hin:=zG1 a b b[i] b.length i ha (hb.2 _ (qi h1)) a.length 0 false (by omega);rw [show ((0:Nat):Int)=0 from rfl,qk,Bool.false_or] at hin;apply zsU;simp only [zkA];rw [qb (by simpa using h1),zd h1];simp only [qa,hin,qd];rw [qj h1,qT]
  cases a.any fun u=>gtT u b[i] with
  | false=>rfl
  | true=>
   rw [qc (by simp),zb (by omega),ih (i+1) (by omega),Bool.true_and]
theorem zDk (a b:List (List Int)) (ha:smR a) (hb:smR b):zht M a b=some ((cov a b,()),()):=by
 apply zBy;have:=zEw a b ha hb b.length 0 (by omega);rw [show ((0:Nat):Int)=0 from rfl,qk] at this;simp only [zsH,this,qa,cov]
 cases b.all fun t=>a.any fun u=>gtT u t with
 | false=>rfl
 | true=>simp
theorem zKq (u t:List Int) (hu:smT u) (ht:smT t):zjo M u t=some ((gtT u t,()),()):=by
 apply zxk;simp only [zmI,zrr u t hu ht,qa]
theorem zIM (t:List Int) (ht:smT t) (a:List (List Int)) (ha:smR a): ∀k i:Nat,i+k=a.length-> ∃r,z8 M a (t,()) a.length i=some r∧(match r with | .inl _=>((a.drop i).any fun u=>gtT u t)=false | .inr r=>0<=r.1.1∧((a.drop i).any fun u=>gtT u t)=true):=by
 intro k
 induction k with
 | zero=>
  intro i hi;obtain rfl:i=a.length:=by omega
  refine ⟨.inl (),zbm _ _ _ _ (by simp [zX]),by simp⟩
 | succ k ih=>
  intro i hi;have h1:i<a.length:=by omega
  have h4:=ha.1;have hg:=zKq a[i] t (ha.2 _ (qi h1)) ht;obtain ⟨r,hr,hm⟩:=ih (i+1) (by omega);rw [qj h1,List.any_cons]
  cases hp:gtT a[i] t with
  | false=>
   refine ⟨r,zbm _ _ _ _ ?_,by simpa using hm⟩;simp only [zX];rw [qb (by simpa using h1),zd h1,zb (by omega)];simp only [qa,hg,hp,qg,qe]
   exact hr
  | true=>
   refine ⟨.inr (((i:Int),()),()),zbm _ _ _ _ ?_,Int.natCast_nonneg i,by simp⟩;simp only [zX];rw [qb (by simpa using h1),zd h1];simp only [qa,hg,hp,qf]
theorem zCi (t:List Int) (ht:smT t) (a:List (List Int)) (ha:smR a):zaF M a (t,())=some ((a.any fun u=>gtT u t,()),()):=by
 apply zhX;simp only [zbq];obtain ⟨r,hr,hm⟩:=zIM t ht a ha a.length 0 (by omega);rw [show ((0:Nat):Int)=0 from rfl] at hr;rw [qk] at hm
 cases r with
 | inl r=>
  rw [zdy a (t,()) (r:=((-1,()),())) (by simp only [zaU,hr,qa,qd])];simp only at hm
  rw [hm];rfl
 | inr r=>
  rw [zdy a (t,()) (r:=r) (by simp only [zaU,hr,qa,qF])];simp only at hm;simp [hm]
theorem zzW (a b:List (List Int)) (ha:smR a) (hb:smR b): ∀(k i:Nat),i+k=b.length->zfX M a b b.length i=some (if (b.drop i).all (fun t=>a.any fun u=>gtT u t)=true then .inl (a,()) else .inr ((false,()),())):=by
 intro k
 induction k with
 | zero=>
  intro i hi;obtain rfl:i=b.length:=by omega
  apply zp1;simp only [zh1];rw [qc (by simp)]
  simp
 | succ k ih=>
  intro i hi;have h1:i<b.length:=by omega
  have h4:=hb.1;apply zp1;simp only [zh1];rw [qb (by simpa using h1),zd h1];simp only [qa,zCi b[i] (hb.2 _ (qi h1)) a ha];rw [qj h1,qT]
  cases a.any fun u=>gtT u b[i] with
  | false=>rfl
  | true=>
   rw [qc (by simp),zb (by omega),ih (i+1) (by omega),Bool.true_and]
theorem zys (a b:List (List Int)) (ha:smR a) (hb:smR b):zey M a b=some ((cov a b,()),()):=by
 apply zyX;have:=zzW a b ha hb b.length 0 (by omega);rw [show ((0:Nat):Int)=0 from rfl,qk] at this;simp only [zoR,this,qa,cov]
 cases b.all fun t=>a.any fun u=>gtT u t with
 | false=>rfl
 | true=>simp
theorem zB2 {a a' b b':List (List Int)} (ha:a.Perm a') (hb:b.Perm b'):cov a b=cov a' b':=by
 have h1: ∀t,(a.any fun u=>gtT u t)=a'.any fun u=>gtT u t:=by
  intro t;rw [Bool.eq_iff_iff];simp only [List.any_eq_true];exact ⟨fun ⟨u,h,k⟩=>⟨u,ha.mem_iff.1 h,k⟩,fun ⟨u,h,k⟩=>⟨u,ha.mem_iff.2 h,k⟩⟩
 have h2:(b.all fun t=>a.any fun u=>gtT u t)=b'.all fun t=>a'.any fun u=>gtT u t:=by
  rw [Bool.eq_iff_iff];simp only [List.all_eq_true,h1];exact ⟨fun h t k=>h t (hb.mem_iff.2 k),fun h t k=>h t (hb.mem_iff.1 k)⟩
 unfold cov;rw [h2,ha.length_eq]
theorem smR.of_count {a x:List (List Int)} (ha:smR a) (h: ∀s,x.count s<=a.count s):smR x:=by
 have hm: ∀t∈x,t∈a:=fun t ht=>List.count_pos_iff.1 (by have:=List.count_pos_iff.2 ht;have:=h t;omega)
 refine ⟨?_,fun t ht=>ha.2 t (hm t ht)⟩
 have: ∀(x a:List (List Int)),(∀s,x.count s<=a.count s)->x.length<=a.length:=by
  intro x
  induction x with
  | nil=>intro a _;simp
  | cons t x ih=>
   intro a h;have ht:t∈a:=List.count_pos_iff.1 (by have:=h t;rw [List.count_cons_self] at this;omega)
   have:=ih (a.erase t) (fun s=>by
    have:=h s;rw [List.count_erase];rw [List.count_cons] at this;by_cases e:t=s
    ·subst e;simp at this ⊢; omega
    ·simp [e] at this ⊢; exact this)
   rw [List.length_erase_of_mem ht] at this;have:=List.length_pos_of_mem ht;simp;omega
 have:=this x a h;have:=ha.1;omega
theorem zJg (a b:List (List Int)) (ha:smR a) (hb:smR b): ∃n:Int,zi2 M a b=some ((n,()),())∧znl M a b=some ((n,()),()):=by
 obtain ⟨x,y,hx,hc,hc'⟩:=zGO a ha a.length 0 b [] (by omega) hb (by simp);rw [show ((0:Nat):Int)=0 from rfl,qB] at hx;simp only [qk] at hc hc';obtain ⟨x',e1,d1⟩:=zCd a b ha hb;obtain ⟨y',e2,d2⟩:=zCd b a hb ha;have sx:smR x:=ha.of_count (fun s=>by rw [hc s];omega);have sy:smR y:=hb.of_count (fun s=>by rw [hc' s];omega);have sx':smR x':=ha.of_count (fun s=>by rw [d1 s];omega);have sy':smR y':=hb.of_count (fun s=>by rw [d2 s];omega);have px:x'.Perm x:=List.perm_iff_count.2 fun s=>by rw [hc s,d1 s]
 have py:y'.Perm y:=List.perm_iff_count.2 fun s=>by rw [hc' s,d2 s]
 refine ⟨if x.length=0∧y.length=0 then 0 else if cov x y=true then 1 else if cov y x=true then -1 else 2,zwN _ _ ?_,zAn _ _ ?_⟩
 ·simp only [zmb];rw [qb (by have:=hb.1;omega),hx];simp only [qa,qd,zys x y sx sy,zys y x sy sx];by_cases h1:x.length=0
  ·rw [qb (by simp [h1])];by_cases h2:y.length=0
   ·rw [qb (by simp [h2]),qb ⟨h1,h2⟩]
   ·rw [qc (by simpa using h2),qc (show ¬(x.length=0∧y.length=0) from fun q=>h2 q.2)];cases cov x y<;>cases cov y x<;>rfl
  ·rw [qc (by simpa using h1),qc (show ¬(x.length=0∧y.length=0) from fun q=>h1 q.1)];cases cov x y<;>cases cov y x<;>rfl
 ·simp only [zrj,e1,e2,qa,zDk x' y' sx' sy',zDk y' x' sy' sx',zB2 px py,zB2 py px,px.length_eq,py.length_eq];by_cases h1:x.length=0
  ·rw [qb (by simp [h1])];by_cases h2:y.length=0
   ·rw [qb (by simp [h2]),qb ⟨h1,h2⟩]
   ·rw [qc (by simpa using h2),qc (show ¬(x.length=0∧y.length=0) from fun q=>h2 q.2)];cases cov x y<;>cases cov y x<;>rfl
  ·rw [qc (by simpa using h1),qc (show ¬(x.length=0∧y.length=0) from fun q=>h1 q.1)];cases cov x y<;>cases cov y x<;>rfl
def lsL (x:TLit):List (List Int):=if x.1=true then [x.2.1,x.2.2.1] else [x.2.1,x.2.2.1,x.2.1,x.2.2.1]
theorem zvL (x:TLit):zhQ M x=some ((lsL x,()),())∧zlZ M x=some ((lsL x,()),()):=by
 refine ⟨zx8 _ ?_,zBA _ ?_⟩
 ·simp only [znT,lsL];split<;>rfl
 ·simp only [zsw,lsL];split<;>rfl
def smTL (x:TLit):Prop:=smT x.2.1∧smT x.2.2.1
theorem zGr {x:TLit} (h:smTL x):smR (lsL x):=by
 unfold lsL;split
 ·refine ⟨by simp,fun t ht=>?_⟩;simp only [qA,List.not_mem_nil,or_false] at ht;rcases ht with rfl | rfl
  ·exact h.1
  ·exact h.2
 ·refine ⟨by simp,fun t ht=>?_⟩;simp only [qA,List.not_mem_nil,or_false] at ht;rcases ht with rfl | rfl | rfl | rfl
  ·exact h.1
  ·exact h.2
  ·exact h.1
  ·exact h.2
theorem zGC (c:List TLit) (hl:c.length<=1000) (hc: ∀x∈c,smTL x) (m:Nat) (hm:m<c.length): ∀(k i:Nat),i+k=c.length-> ∃r,zd5 M c m c c.length i=some r∧zd0 M c m c c.length i=some r∧(r= .inl ()∨r= .inr ((false,()),())):=by
 intro k
 induction k with
 | zero=>
  intro i hi;obtain rfl:i=c.length:=by omega
  refine ⟨.inl (),zlK _ _ _ _ _ ?_,zli _ _ _ _ _ ?_,.inl rfl⟩
  ·simp [zfu]
  ·simp [zfo]
 | succ k ih=>
  intro i hi;have h1:i<c.length:=by omega
  obtain ⟨r,r1,r2,r3⟩:=ih (i+1) (by omega);by_cases e:i=m
  ·refine ⟨r,zlK _ _ _ _ _ ?_,zli _ _ _ _ _ ?_,r3⟩
   ·simp only [zfu];rw [qb (by simpa using h1),zd h1,zb (by omega)];simp only [qa];rw [qc (by simp [e])];exact r1
   ·simp only [zfo];rw [qb (by simpa using h1),zd h1,zb (by omega)];simp only [qa];rw [qc (by simp [e])];exact r2
  ·obtain ⟨n,n1,n2⟩:=zJg (lsL c[i]) (lsL c[m]) (zGr (hc _ (qi h1))) (zGr (hc _ (qi hm)))
   have hcl:zjv M c[i] c[m]=some ((n,()),()):=by
    apply zxL;simp only [zm7,zg,(zvL c[i]).1,(zvL c[m]).1,n1,qa]
   refine ⟨if n=1 then .inr ((false,()),()) else r,zlK _ _ _ _ _ ?_,zli _ _ _ _ _ ?_,?_⟩
   ·simp only [zfu];rw [qb (by simpa using h1),zd h1,zb (by omega),zd hm];simp only [qa];rw [qb (by simp;omega)];simp only [zg,hcl,qa];by_cases h:n=1
    ·rw [qb (by simpa using h),qb h]
    ·rw [qc (by simpa using h),qc h];exact r1
   ·simp only [zfo];rw [qb (by simpa using h1),zd h1,zb (by omega),zd hm];simp only [qa];rw [qb (by simp;omega)];simp only [zg,(zvL c[i]).2,(zvL c[m]).2,n2,qa];by_cases h:n=1
    ·rw [qb (by simpa using h),qb h]
    ·rw [qc (by simpa using h),qc h];exact r2
   ·split
    ·exact .inr rfl
    ·exact r3
theorem zuE (c:List TLit) (hl:c.length<=1000) (hc: ∀x∈c,smTL x) (m:Nat) (hm:m<c.length): ∃b:Bool,zcw M c m=some ((b,()),())∧zeA M c m=some ((b,()),()):=by
 obtain ⟨r,r1,r2,r3⟩:=zGC c hl hc m hm c.length 0 (by omega);rw [show ((0:Nat):Int)=0 from rfl] at r1 r2;rcases r3 with rfl | rfl
 ·exact ⟨true,zum _ _ (by simp only [zly,r1,qa,qd]),zt5 _ _ (by simp only [zls,r2,qa,qd])⟩
 ·exact ⟨false,zum _ _ (by simp only [zly,r1,qa,qF]),zt5 _ _ (by simp only [zls,r2,qa,qF])⟩
theorem zJ9 (Ls:List (List Int)) (hx: ∀x∈Ls,x.length<=1000000) (hl:Ls.length<=1000): ∀(k i n:Nat),i+k=Ls.length->n<=1000000*i->zcD M Ls n Ls Ls.length i=some (.inl (Ls,((n+((Ls.drop i).flatten).length:Nat):Int),())):=by
 intro k
 induction k with
 | zero=>
  intro i n hi hn;obtain rfl:i=Ls.length:=by omega
  apply zk8;simp only [zdW];rw [qc (by simp),qG]
  simp
 | succ k ih=>
  intro i n hi hn;have h1:i<Ls.length:=by omega
  have h2:=hx _ (qi h1);have e:IntKind.i64.wrap ((n:Int)+(Ls[i].length:Int))=((n+Ls[i].length:Nat):Int):=by rw [w64 (by omega) (by omega)];omega
  apply zk8;simp only [zdW];rw [qb (by simpa using h1),zd h1,zb (by omega)];simp only [qa,e];rw [qc (by simp;omega),ih (i+1) _ (by omega) (by omega),qj h1,List.flatten_cons,qK];congr 4;omega
theorem zKg (Ls:List (List Int)) (hx: ∀x∈Ls,x.length<=1000000) (hl:Ls.length<=1000): ∀(k i:Nat) (o:List Int),i+k=Ls.length->o.length<=1000000*i->zcq M o Ls Ls.length i=some (.inl (o++(Ls.drop i).flatten,())):=by
 intro k
 induction k with
 | zero=>
  intro i o hi ho;obtain rfl:i=Ls.length:=by omega
  apply zkM;simp only [zdA];rw [qc (by simp),qG]
  simp
 | succ k ih=>
  intro i o hi ho;have h1:i<Ls.length:=by omega
  have h2:=hx _ (qi h1);apply zkM;simp only [zdA];rw [qb (by simpa using h1),zd h1,zb (by omega)];simp only [qa];rw [qb (by omega),ih (i+1) _ (by omega) (by simp;omega),qj h1,List.flatten_cons,qE]
theorem p_cI (Ls:List (List Int)) (hx: ∀x∈Ls,x.length<=1000000) (hl:Ls.length<=1000) (ht:Ls.flatten.length<=1000000000):zfP M Ls=some ((Ls.flatten,()),()):=by
 apply zuv;have a:=zJ9 Ls hx hl Ls.length 0 0 (by omega) (by omega);have b:=zKg Ls hx hl Ls.length 0 [] (by omega) (by simp);rw [show ((0:Nat):Int)=0 from rfl] at a b;rw [qk,qI] at a;rw [qk,qB] at b;simp only [zjd,a,qa,qd];rw [qb (by omega),b];rfl
theorem zKi (Ls:List (List TLit)) (hx: ∀x∈Ls,x.length<=1000000) (hl:Ls.length<=1000): ∀(k i n:Nat),i+k=Ls.length->n<=1000000*i->za9 M Ls n Ls Ls.length i=some (.inl (Ls,((n+((Ls.drop i).flatten).length:Nat):Int),())):=by
 intro k
 induction k with
 | zero=>
  intro i n hi hn;obtain rfl:i=Ls.length:=by omega
  apply zgk;simp only [zbM];rw [qc (by simp),qG]
  simp
 | succ k ih=>
  intro i n hi hn;have h1:i<Ls.length:=by omega
  have h2:=hx _ (qi h1);have e:IntKind.i64.wrap ((n:Int)+(Ls[i].length:Int))=((n+Ls[i].length:Nat):Int):=by rw [w64 (by omega) (by omega)];omega
  apply zgk;simp only [zbM];rw [qb (by simpa using h1),zd h1,zb (by omega)];simp only [qa,e];rw [qc (by simp;omega),ih (i+1) _ (by omega) (by omega),qj h1,List.flatten_cons,qK];congr 4;omega
theorem zKv (Ls:List (List TLit)) (hx: ∀x∈Ls,x.length<=1000000) (hl:Ls.length<=1000): ∀(k i:Nat) (o:List TLit),i+k=Ls.length->o.length<=1000000*i->za2 M o Ls Ls.length i=some (.inl (o++(Ls.drop i).flatten,())):=by
 intro k
 induction k with
 | zero=>
  intro i o hi ho;obtain rfl:i=Ls.length:=by omega
  apply zf4;simp only [zbD];rw [qc (by simp),qG]
  simp
 | succ k ih=>
  intro i o hi ho;have h1:i<Ls.length:=by omega
  have h2:=hx _ (qi h1);apply zf4;simp only [zbD];rw [qb (by simpa using h1),zd h1,zb (by omega)];simp only [qa];rw [qb (by omega),ih (i+1) _ (by omega) (by simp;omega),qj h1,List.flatten_cons,qE]
theorem p_cL (Ls:List (List TLit)) (hx: ∀x∈Ls,x.length<=1000000) (hl:Ls.length<=1000) (ht:Ls.flatten.length<=1000000000):zbv M Ls=some ((Ls.flatten,()),()):=by
 apply zoc;have a:=zKi Ls hx hl Ls.length 0 0 (by omega) (by omega);have b:=zKv Ls hx hl Ls.length 0 [] (by omega) (by simp);rw [show ((0:Nat):Int)=0 from rfl] at a b;rw [qk,qI] at a;rw [qk,qB] at b;simp only [zd9,a,qa,qd];rw [qb (by omega),b];rfl
theorem zzo (s:TSign) (hg:gS s.1=true) (t r:List Int) (ht:t.length<=10000) (hr:r.length<=10000) {i:Nat} {u x:List Int} (h:t.drop i=u++x) (hu:Tm s.1 u):zf7 M s t i r=some ((t.take i++r++x,()),())∧zgh M s t i r=some ((t.take i++r++x,()),()):=by
 obtain ⟨c1,c2⟩:=zqU h (Tm.pos hu);have hp:=Tm.pos hu;have he:=zxc s hg t (by omega) u x i 1 h (by omega) (by omega) (by omega) hu
 have he':zdV M s t i=some ((((i+u.length:Nat):Int),()),()):=by
  apply zpH;simp only [zjN,za,he,qa,qd]
 have hs:=zAN s hg t i (by omega) (by omega);rw [h,Tm.rest hg hu x] at hs;have hd:t.drop (i+u.length)=x:=by rw [<-List.drop_drop,h,List.drop_left]
 refine ⟨zwy _ _ _ _ ?_,zyZ _ _ _ _ ?_⟩
 ·simp only [zma,za];rw [qb (by omega),he'];simp only [qa];rw [qb (by omega)];simp only [qo,Int.toNat_zero,qk,List.take_length,hd]
  rw [p_cI [t.take i,r,x] (by
   intro y hy;simp only [qA,List.not_mem_nil,or_false] at hy;rcases hy with rfl | rfl | rfl
   ·simp;omega
   ·omega
   ·omega) (by simp) (by simp;omega)]
  simp
 ·simp only [zoX,za];rw [qb (by omega)];simp only [qo,Int.toNat_zero,qk,List.take_length];rw [ziu (t.take i) (by simp;omega)];simp only [qa];rw [qb (by simp;omega),hs];simp only [qa];rw [qb (by omega),show ((t.length:Int)-x.length).toNat=i+u.length by omega,hd,qb (by simp;omega)]
def sd (x:TLit) (k:Int):List Int×List Int:=if k=0 then (x.2.1,x.2.2.1) else (x.2.2.1,x.2.1)
theorem zjl (x:TLit) (k:Int):zaO M x k=some (((sd x k).1,(sd x k).2,()),())∧za0 M x k=some (((sd x k).1,(sd x k).2,()),()):=by
 refine ⟨zzE _ _ ?_,zAt _ _ ?_⟩
 ·simp only [zqh,sd];by_cases h:k=0
  ·rw [qb (by simpa using h),qb h]
  ·rw [qc (by simpa using h),qc h]
 ·simp only [zri,sd];by_cases h:k=0
  ·rw [qb (by simpa using h),qb h]
  ·rw [qc (by simpa using h),qc h]
def is01 (k:Int):Bool:=decide (0<=k)&&decide (k<=1)
theorem zv9 (k:Int):zhu M k=some ((is01 k,()),()):=by
 apply zBS;simp only [zsf,is01];by_cases h:k=0
 ·subst h;rfl
 ·rw [qc (by simpa using h)];by_cases h1:k=1
  ·subst h1;rfl
  ·have:(k==(1:Int))=false:=by simpa using h1
   rw [this]
   have:(decide (0<=k)&&decide (k<=1))=false:=by
    rw [Bool.and_eq_false_iff];simp only [decide_eq_false_iff_not];omega
   rw [this]
theorem zxS (c:List TLit) (hc:c.length<=1000) (i k:Int):ziy M c i k=some ((decide (0<=i)&&decide (i<(c.length:Int))&&is01 k,()),()):=by
 apply zCW;rw [zub,w64 (by omega) (by omega),zfq,zfq];simp only [qa,is01];have:decide (i<=(c.length:Int)-1)=decide (i<(c.length:Int)):=by rw [decide_eq_decide];omega
 rw [this];cases (decide (0<=i)&&decide (i<(c.length:Int)))<;>rfl
theorem zHH (a b:List Int):cmpK a b=0∨cmpK a b=1∨cmpK a b= -1∨cmpK a b=2:=by
 unfold cmpK;split
 ·exact .inl rfl
 ·split
  ·exact .inr (.inl rfl)
  ·split
   ·exact .inr (.inr (.inl rfl))
   ·exact .inr (.inr (.inr rfl))
def ovr (a b:List Int):Bool:=decide (0<cmpK a b)
theorem zAP (a b:List Int) (ha:smT a) (hb:smT b):zeK M a b=some ((!ovr a b,()),())∧zjj M a b=some ((ovr a b,()),()):=by
 have h:=zAe a b ha hb;have hv:=zHH a b;refine ⟨zAk _ _ ?_,zBC _ _ ?_⟩
 ·simp only [zrc,h.1,qa,ovr];rcases hv with e | e | e | e<;>rw [e]<;>rfl
 ·simp only [zsl,h.2,qa,ovr];rcases hv with e | e | e | e<;>rw [e]<;>rfl
theorem zxt (c:List TLit) (hl:c.length<=20) (hc: ∀x∈c,x.2.1.length<=1000∧x.2.2.1.length<=1000) (b:Bool):zbg M c b=some ((outC c,(if b=true then 0 else 5),()),()):=by
 apply zAX;simp only [zre,(zjZ c hl hc).1,qa];cases b<;>rfl
abbrev TWay:=Int×Int×Int×Int×Int×Unit
theorem zJp (s:TSign) (w:TWay) (u l r v:List Int) (f:List (List Int)) (cb eb:List TLit) (hl:cb.length<=1000): ∀(k i:Nat) (o:List TLit),i+k=cb.length->o.length<=i->zeX M s w u l r v f cb eb o cb.length i=some (.inl (s,w,u,l,r,v,f,cb,eb,o++((cb.drop i).zipIdx i).filterMap (fun p=>if (p.2:Int)=w.1 then none else some p.1),())):=by
 intro k
 induction k with
 | zero=>
  intro i o hi ho;obtain rfl:i=cb.length:=by omega
  apply zop;simp only [zgq];rw [qc (by simp),qG]
  simp
 | succ k ih=>
  intro i o hi ho;have h1:i<cb.length:=by omega
  apply zop;simp only [zgq];rw [qb (by simpa using h1),qb (by omega),qo,qv h1];simp only [qa];rw [qj h1,List.zipIdx_cons,List.filterMap_cons];by_cases h:(i:Int)=w.1
  ·rw [qc (by simpa using h),qb h];simp only [qa,qd];rw [zb (by omega)];exact ih (i+1) o (by omega) (by omega)
  ·rw [qb (by simpa using h),qc h,qb (by simp;omega)];simp only [qa,qd];rw [zb (by omega)];have:=ih (i+1) (o++ [cb[i]]) (by omega) (by simp;omega);rw [qE] at this;exact this
end Go.Proofs.YtchkojfhcdcnmaaGreatCk.Ev
