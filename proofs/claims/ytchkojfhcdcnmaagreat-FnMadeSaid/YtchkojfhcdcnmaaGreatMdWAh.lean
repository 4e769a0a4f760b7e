/- Texts laid together: WAa, WAd, WAe, QI, QJb, WAf, WAg, WAb, WAh; no condition but those that each theorem names. -/
import Derived.Test.YtchkojfhcdcnmaaGreatMdQKa
namespace Go.Proofs.YtchkojfhcdcnmaaGreatMd.Ev
open Go
set_option autoImplicit false
set_option linter.unusedVariables false
set_option linter.unusedSimpArgs false
theorem zHk (n:Int) (t:List Int) (ht:t.length<=1048576): ∀k i c:Nat,i+k=t.length->c<=i->zkr M n c t t.length i=some (.inl (((c+(t.drop i).count n:Nat):Int),())):=by
 intro k
 induction k with
 | zero=>
  intro i c hi hc;obtain rfl:i=t.length:=by omega
  apply zu8;simp only [zmy];rw [qc (by simp),qG]
  simp
 | succ k ih=>
  intro i c hi hc;have h1:i<t.length:=by omega
  apply zu8;simp only [zmy];rw [qb (by simpa using h1),zd h1];simp only [qa];rw [qj h1,List.count_cons];by_cases h:t[i]=n
  ·rw [qb (by simpa using h)];simp only [qa,qd];rw [zb (by omega),zb (by omega),ih (i+1) (c+1) (by omega) (by omega)];simp [h];omega
  ·rw [qc (by simpa using h)];simp only [qa,qd];rw [zb (by omega),ih (i+1) c (by omega) (by omega)];simp [h]
theorem zI5 (t:List Int) (n:Int) (ht:t.length<=1048576):zot M t n=some ((((t.count n:Nat):Int),()),()):=by
 apply zEJ;have:=zHk n t ht t.length 0 0 (by omega) (by omega);rw [e0x,qk,qJ] at this;simp only [zvC,this,qa,qd]
theorem zHa (n:Int) (t:List Int) (ht:t.length<=1048576): ∀k i c:Nat,i+k=t.length->c<=i->ziB M n c t t.length i=some (.inl (((c+(t.drop i).count n:Nat):Int),())):=by
 intro k
 induction k with
 | zero=>
  intro i c hi hc;obtain rfl:i=t.length:=by omega
  apply ztx;simp only [zkT];rw [qc (by simp),qG]
  simp
 | succ k ih=>
  intro i c hi hc;have h1:i<t.length:=by omega
  apply ztx;simp only [zkT];rw [qb (by simpa using h1),zd h1];simp only [qa];rw [qj h1,List.count_cons];by_cases h:t[i]=n
  ·rw [qb (by simpa using h)];simp only [qa,qd];rw [zb (by omega),zb (by omega),ih (i+1) (c+1) (by omega) (by omega)];simp [h];omega
  ·rw [qc (by simpa using h)];simp only [qa,qd];rw [zb (by omega),ih (i+1) c (by omega) (by omega)];simp [h]
theorem zH0 (t:List Int) (n:Int) (ht:t.length<=1048576):zlO M t n=some ((((t.count n:Nat):Int),()),()):=by
 apply zBR;have:=zHa n t ht t.length 0 0 (by omega) (by omega);rw [e0x,qk,qJ] at this;simp only [zsC,this,qa,qd]
def wgh (a b:List Int):Bool:=decide (∀v:Nat,v<12->b.count (-1-(v:Int))<=a.count (-1-(v:Int)))
def gtLex:List Int->List Int->Bool
 | x::a,y::b=>if x=y then gtLex a b else decide (0<=x)&&(decide (0<=y)&&decide (y<x))
 | _,_=>false
def gtT (a b:List Int):Bool:=wgh a b&&(decide (b.length<=a.length)&&(decide (b.length<a.length) || gtLex a b))
def cmpK (a b:List Int):Int:=if a=b then 0 else if gtT a b=true then 1 else if gtT b a=true then -1 else 2
theorem zDS (a b:List Int) (ha:a.length<=1048576) (hb:b.length<=1048576): ∀k v:Nat,v+k=12->zf9 M a b v=some (if decide (∀w:Nat,w<12->v<=w->b.count (-1-(w:Int))<=a.count (-1-(w:Int)))=true then .inl () else .inr ((false,()),())):=by
 intro k
 induction k with
 | zero=>
  intro v hv;obtain rfl:v=12:=by omega
  apply zqr;simp only [zhX]
  rw [qc (by simp),qb (by simp;omega)]
 | succ k ih=>
  intro v hv;apply zqr;simp only [zhX];rw [qb (by simp;omega),w64 (by omega) (by omega)];simp only [qa,zI5 a _ ha,zI5 b _ hb];by_cases h:b.count (-1-(v:Int))<=a.count (-1-(v:Int))
  ·rw [qc (by simp;omega),zb (by omega),ih (v+1) (by omega)]
   have:(∀w:Nat,w<12->v+1<=w->b.count (-1-(w:Int))<=a.count (-1-(w:Int)))↔ ∀w:Nat,w<12->v<=w->b.count (-1-(w:Int))<=a.count (-1-(w:Int)):=by
    constructor
    ·intro q w h1 h2;by_cases e:w=v
     ·subst e;exact h
     ·exact q w h1 (by omega)
    ·intro q w h1 h2;exact q w h1 (by omega)
   simp only [this]
  ·rw [qb (by simp;omega),qc (by simp only [qt];intro q;exact h (q v (by omega) (ql _)))]
theorem zJe (a b:List Int) (ha:a.length<=1048576) (hb:b.length<=1048576):zls M a b=some ((wgh a b,()),()):=by
 apply zzL;have:=zDS a b ha hb 12 0 (by omega);rw [e0x] at this;simp only [zo6,this,qa]
 have e:decide (∀w:Nat,w<12->0<=w->b.count (-1-(w:Int))<=a.count (-1-(w:Int)))=wgh a b:=by
  unfold wgh;simp
 rw [e];cases wgh a b<;>rfl
theorem zDv (a b r:List Int) (ha:a.length<=1048576) (hb:b.length<=1048576) (hr:r.length<=100000) (hv: ∀v∈r,0<=v∧v<=1000): ∀k i:Nat,i+k=r.length->zhA M a b r r.length i=some (if (r.drop i).all (fun v=>decide (b.count (-1-v)<=a.count (-1-v)))=true then .inl () else .inr ((false,()),())):=by
 intro k
 induction k with
 | zero=>
  intro i hi;obtain rfl:i=r.length:=by omega
  apply zrV;simp only [zjP]
  rw [qc (by simp),qb (by simp)]
 | succ k ih=>
  intro i hi;have h1:i<r.length:=by omega
  have h2:=hv _ (qi h1);apply zrV;simp only [zjP];rw [qb (by simpa using h1),qb (by omega),qo,qu h1];simp only [qa];rw [w64 (by omega) (by omega)];simp only [qa,zH0 a _ ha,zH0 b _ hb];rw [qj h1,qR];by_cases h:b.count (-1-r[i])<=a.count (-1-r[i])
  ·rw [qc (by simp;omega),zb (by omega),ih (i+1) (by omega),qp h,Bool.true_and]
  ·rw [qb (by simp;omega),qA h,Bool.false_and,qc (by simp)]
theorem zJW (a b:List Int) (ha:a.length<=1048576) (hb:b.length<=4000) (hw: ∀n∈b,-12<=n):znt M a b=some ((wgh a b,()),()):=by
 apply zBy
 have hm: ∀v,v∈(negs b).foldl putN []↔0<=v∧ -1-v∈b:=by
  intro v;rw [zm9,zAL];simp
 have hl:((negs b).foldl putN []).length<=100000:=by
  have:=zpM (negs b) [];have:=zxu b;simp at *; omega
 have hv: ∀v∈(negs b).foldl putN [],0<=v∧v<=1000:=by
  intro v h;have h:=(hm v).1 h;have:=hw _ h.2;omega
 have:=zDv a b _ ha (by omega) hl hv _ 0 (by rw [qJ]);rw [e0x,qk] at this;simp only [zrc,zwa b hb (fun n hn=>by have:=hw n hn;omega),qa,this]
 have e:((negs b).foldl putN []).all (fun v=>decide (b.count (-1-v)<=a.count (-1-v)))=wgh a b:=by
  unfold wgh;rw [Bool.eq_iff_iff];simp only [List.all_eq_true,qt];constructor
  ·intro q v hv;by_cases h: -1-(v:Int)∈b
   ·exact q v ((hm v).2 ⟨by omega,h⟩)
   ·rw [List.count_eq_zero_of_not_mem h];omega
  ·intro q v hv;have h:=(hm v).1 hv;have:=hw _ h.2;have:=q v.toNat (by omega)
   rwa [show ((v.toNat:Nat):Int)=v by omega] at this
 rw [e];cases wgh a b<;>rfl
theorem zu4 (a b:List Int) (hl:a.length=b.length) (ha:a.length<=1048576): ∀k i:Nat,i+k=a.length->zga M b a a.length i=some (if a.drop i=b.drop i then .inl () else .inr ((gtLex (a.drop i) (b.drop i),()),())):=by
 intro k
 induction k with
 | zero=>
  intro i hi;obtain rfl:i=a.length:=by omega
  apply zqC;simp only [zh1]
  rw [qc (by simp),qG,hl,qG,qb rfl]
 | succ k ih=>
  intro i hi;have h1:i<a.length:=by omega
  have h2:i<b.length:=by omega
  apply zqC;simp only [zh1];rw [qb (by simpa using h1),zd h1,zd h2];simp only [qa];rw [qj h1,qj h2];by_cases he:a[i]=b[i]
  ·rw [qc (by simpa using he),zb (by omega),ih (i+1) (by omega)];by_cases hd:a.drop (i+1)=b.drop (i+1)
   ·rw [qb hd,qb (by rw [he,hd])]
   ·rw [qc hd,qc (fun h=>hd (List.cons.inj h).2),gtLex,qb he]
  ·rw [qb (by simpa using he),qc (fun h=>he (List.cons.inj h).1),gtLex,qc he];by_cases p:0<=a[i]
   ·rw [qb (by simpa using p)];by_cases q:0<=b[i]
    ·rw [qb (by simpa using q)];simp [p,q]
    ·rw [qc (by simpa using q)];simp [q]
   ·rw [qc (by simpa using p)];simp [p]
theorem zu0 (a b:List Int) (hl:a.length=b.length) (ha:a.length<=1048576): ∀k i:Nat,i+k=a.length->zgl M a b a.length i=some (if a.drop i=b.drop i then .inl () else .inr ((gtLex (a.drop i) (b.drop i),()),())):=by
 intro k
 induction k with
 | zero=>
  intro i hi;obtain rfl:i=a.length:=by omega
  apply zqy;simp only [zia]
  rw [qc (by simp),qG,hl,qG,qb rfl]
 | succ k ih=>
  intro i hi;have h1:i<a.length:=by omega
  have h2:i<b.length:=by omega
  apply zqy;simp only [zia];rw [qb (by simpa using h1),zd h1,zd h2];simp only [qa];rw [qj h1,qj h2];by_cases he:a[i]=b[i]
  ·rw [qc (by simpa using he),zb (by omega),ih (i+1) (by omega)];by_cases hd:a.drop (i+1)=b.drop (i+1)
   ·rw [qb hd,qb (by rw [he,hd])]
   ·rw [qc hd,qc (fun h=>hd (List.cons.inj h).2),gtLex,qb he]
  ·rw [qb (by simpa using he),qc (fun h=>he (List.cons.inj h).1),gtLex,qc he];by_cases p:0<=a[i]
   ·rw [qb (by simpa using p)];by_cases q:0<=b[i]
    ·rw [qb (by simpa using q)];simp [p,q]
    ·rw [qc (by simpa using q)];simp [q]
   ·rw [qc (by simpa using p)];simp [p]
theorem zA9 (a:List Int):gtLex a a=false:=by
 induction a with
 | nil=>rfl
 | cons x a ih=>rw [gtLex,qb rfl,ih]
def smT (a:List Int):Prop:=a.length<=4000∧ ∀n∈a,-12<=n
theorem zsV (a b:List Int) (ha:smT a) (hb:smT b):ze6 M a b=some ((gtT a b,()),()):=by
 have la:=ha.1;have lb:=hb.1;apply zAU;simp only [zp7,zJe a b (by omega) (by omega),qa,gtT];by_cases h1:a.length<b.length
 ·rw [qb (by simpa using h1),qA (by omega)];simp
 ·rw [qc (by simpa using h1),qp (show b.length<=a.length by omega)]
  cases wgh a b with
  | false=>rfl
  | true=>
   rw [qc (by simp)];by_cases h2:b.length<a.length
   ·rw [qb (by simpa using h2),qp h2];rfl
   ·rw [qc (by simpa using h2),qA h2];have:=zu4 a b (by omega) (by omega) a.length 0 (by omega);rw [e0x,qk,qk] at this;rw [this];by_cases e:a=b
    ·rw [qb e,e,zA9];rfl
    ·rw [qc e];rfl
theorem zsO (a b:List Int) (ha:smT a) (hb:smT b):ze7 M a b=some ((gtT a b,()),()):=by
 have la:=ha.1;have lb:=hb.1;apply zAp;simp only [zqi,zJW a b (by omega) (by omega) hb.2,qa,gtT]
 cases wgh a b with
 | false=>rfl
 | true=>
  rw [qc (by simp)];by_cases h1:a.length<b.length
  ·rw [qb (by simpa using h1),qA (by omega)];simp
  ·rw [qc (by simpa using h1),qp (show b.length<=a.length by omega)];by_cases h2:b.length<a.length
   ·rw [qb (by simpa using h2),qp h2];rfl
   ·rw [qc (by simpa using h2),qA h2];have:=zu0 a b (by omega) (by omega) a.length 0 (by omega);rw [e0x,qk,qk] at this;rw [this];by_cases e:a=b
    ·rw [qb e,e,zA9];rfl
    ·rw [qc e];rfl
theorem zFr (a b:List Int) (hab:a.length=b.length) (ha:a.length<=17592186044416): ∀k i:Nat,i+k=a.length->zjF M a b a.length i=some (if a.drop i=b.drop i then .inl () else .inr ((false,()),())):=by
 intro k
 induction k with
 | zero=>
  intro i hi;obtain rfl:i=a.length:=by omega
  apply zuo;simp only [zlw]
  rw [qc (by simp),qG,hab,qG,qb rfl]
 | succ k ih=>
  intro i hi;have h1:i<a.length:=by omega
  have h2:i<b.length:=by omega
  apply zuo;simp only [zlw];rw [qb (by simpa using h1),zd h1,zd h2];simp only [qa];rw [qj h1,qj h2];by_cases he:a[i]=b[i]
  ·rw [qc (by simpa using he),zb (by omega),ih (i+1) (by omega)];by_cases hd:a.drop (i+1)=b.drop (i+1)
   ·rw [qb hd,qb (by rw [he,hd])]
   ·rw [qc hd,qc (fun h=>hd (List.cons.inj h).2)]
  ·rw [qb (by simpa using he),qc (fun h=>he (List.cons.inj h).1)]
theorem zlU (a b:List Int) (ha:a.length<=17592186044416):zaS M a b=some ((decide (a=b),()),()):=by
 apply zDP;simp only [ztO];by_cases hl:a.length=b.length
 ·have:=zFr a b hl ha a.length 0 (by omega);rw [e0x,qk,qk] at this;rw [qc (by simp [hl]),this];by_cases h:a=b
  ·rw [qb h];simp [h]
  ·rw [qc h];simp [h]
 ·have: ¬a=b:=fun h=>hl (by rw [h])
  rw [qb (by simp;omega)];simp [this]
theorem zCL (a b:List Int) (ha:smT a) (hb:smT b):zjX M a b=some ((cmpK a b,()),())∧zmi M a b=some ((cmpK a b,()),()):=by
 have la:=ha.1;refine ⟨zx7 _ _ ?_,zAK _ _ ?_⟩
 ·simp only [znk,zna a b (by omega),zsV a b ha hb,zsV b a hb ha,qa,cmpK,qt];split
  ·rfl
  ·split
   ·rfl
   ·split<;>rfl
 ·simp only [zp9,zlU a b (by omega),zsO a b ha hb,zsO b a hb ha,qa,cmpK,qt];split
  ·rfl
  ·split
   ·rfl
   ·split<;>rfl
def tab (f:Nat->List Int):List (List Int):=(List.range 12).map f
theorem zd3 (f:Nat->List Int):(tab f).length=12:=by simp [tab]
theorem zlM (f:Nat->List Int) {k:Nat} (h:k<12):(tab f)[k]?=some (f k):=by simp [tab,h]
theorem zer {f g:Nat->List Int} (h: ∀k,k<12->f k=g k):tab f=tab g:=List.map_congr_left fun k hk=>h k (by simpa using hk)
theorem zuZ (f:Nat->List Int) {k:Nat} (h:k<12) (y:List Int):(tab f).set k y=tab fun j=>if j=k then y else f j:=by
 apply List.ext_getElem?;intro j;rw [List.getElem?_set,zd3];by_cases e:k=j
 ·subst e;rw [qb rfl,qb h,zlM _ h,qb rfl]
 ·rw [qc e];by_cases hj:j<12
  ·rw [zlM _ hj,zlM _ hj,qc (Ne.symm e)]
  ·rw [List.getElem?_eq_none (by rw [zd3];omega),List.getElem?_eq_none (by rw [zd3];omega)]
theorem zGn:List.replicate 12 ([]:List Int)=tab fun _=> []:=rfl
abbrev tabS (σ:Int->List Int):List (List Int):=tab fun k=>σ (k:Int)
theorem zeJ (σ:Int->List Int):SubF (tabS σ) σ:=⟨zd3 _,fun v h0 h1=>by rw [zlM _ (by omega)];congr 1;rw [show ((v.toNat:Nat):Int)=v by omega]⟩
theorem zLh (f:Nat->List Int) {k:Nat} (h:k<12):idx (tab f) (k:Int)=some (f k):=by
 rw [zLp,zlM f h]
theorem zzH {f:Nat->List Int} {t:List Int} (h:t∈tab f): ∃k,k<12∧t=f k:=by
 obtain ⟨k,hk,rfl⟩:=qQ.1 h;exact ⟨k,by simpa using hk,rfl⟩
theorem zF0 {n:Int} (hn:n<0) (h12: -12<=n) (t:List Int):(List.replicate 12 ([]:List Int)).set (-1-n).toNat t=tabS (oneS n t):=by
 rw [zGn,zuZ _ (by omega)];refine zer fun k hk=>?_
 unfold oneS;by_cases e:k=(-1-n).toNat
 ·rw [qb e,qb (by omega)]
 ·rw [qc e,qc (by omega)]
theorem zxS {n:Int} {t:List Int} (ht:t.length<=40): ∀v,(oneS n t v).length<=100000:=by
 intro v;unfold oneS;split
 ·omega
 ·simp
def putS (σ:Int->List Int) (n:Int) (t:List Int) (k:Nat):List Int:=if σ (k:Int)≠ [] then apS (oneS n t) (σ (k:Int)) else []
theorem zGQ (σ:Int->List Int) (n:Int) (t:List Int) (hn:n<0) (h12: -12<=n) (ht:t.length<=40) (hσ: ∀k:Nat,k<12->smT (σ (k:Int))∧(σ (k:Int)).length<=40): ∀(j k:Nat),k+j=12->ziT M (tabS σ) (-1-n) t (tabS (oneS n t)) (tab fun i=>if i<k then putS σ n t i else []) 12 k=some (.inl (-1-n,t,tab (putS σ n t),())):=by
 intro j
 induction j with
 | zero=>
  intro k hk;obtain rfl:k=12:=by omega
  apply ztc;simp only [zkM];rw [qc (by simp)];have:tab (fun i=>if i<12 then putS σ n t i else [])=tab (putS σ n t):=zer fun i hi=>by rw [qb hi]
  rw [this]
 | succ j ih=>
  intro k hk;have h1:k<12:=by omega
  obtain ⟨s1,s2⟩:=hσ k h1
  have hnext: ∀y,y=putS σ n t k->(tab fun i=>if i<k then putS σ n t i else []).set k y=tab fun i=>if i<k+1 then putS σ n t i else []:=by
   intro y hy;rw [zuZ _ h1];refine zer fun i hi=>?_
   by_cases e:i=k
   ·rw [qb e,qb (by omega),hy,e]
   ·rw [qc e];by_cases q:i<k
    ·rw [qb q,qb (by omega)]
    ·rw [qc q,qc (by omega)]
  apply ztc;simp only [zkM];rw [qb (by simp;omega),zLh _ h1];simp only [qa];by_cases hs:σ (k:Int)= []
  ·rw [qc (by simp [hs])];simp only [qa,qd];rw [zb (by omega),<-ih (k+1) (by omega)];congr 1;refine zer fun i hi=>?_
   by_cases q:i<k
   ·rw [qb q,qb (by omega)]
   ·rw [qc q];by_cases e:i=k
    ·rw [qb (by omega),e];unfold putS;rw [qc (by simpa using hs)]
    ·rw [qc (by omega)]
  ·have hl:=qX.2 hs;rw [qb (by simp;omega),zfZ _ _ (zeJ (oneS n t)) (zxS ht) _ (by omega) s1.2];simp only [qa];rw [qb (by rw [zd3];omega),qo,zlM _ h1];simp only [qa,qd];rw [zb (by omega),hnext _ (by unfold putS;rw [qb hs]),ih (k+1) (by omega)]
theorem zFi (σ:Int->List Int) {n:Int} (hn:n<0) (h12: -12<=n) (t:List Int):(tab (putS σ n t)).set (-1-n).toNat t=tabS (bindS σ n t):=by
 rw [zuZ _ (by omega)];refine zer fun k hk=>?_
 unfold bindS putS;by_cases e:k=(-1-n).toNat
 ·rw [qb e,qb (by omega)]
 ·rw [qc e,qc (show ¬((k:Int)= -1-n) by omega)]
theorem zKb (σ:Int->List Int) (n:Int) (t:List Int) (hn:n<0) (h12: -12<=n) (ht:t.length<=40) (hσ: ∀k:Nat,k<12->smT (σ (k:Int))∧(σ (k:Int)).length<=40):zkk M (tabS σ) (-1-n) t=some ((tabS (bindS σ n t),()),()):=by
 have hl:=zGQ σ n t hn h12 ht hσ 12 0 (by omega);rw [e0x] at hl;have e0:(tab fun i=>if i<0 then putS σ n t i else [])=List.replicate 12 ([]:List Int):=by rw [zGn];exact zer fun i _=>by rw [qc (by omega)]
 rw [e0] at hl;apply zDG;simp only [ztG];rw [qb ⟨by decide,by decide,trivial⟩,show (12:Int).toNat=12 from rfl];rw [qb (by simp;omega),qu (by simp;omega)];simp only [qa];rw [qb ⟨by decide,by decide,trivial⟩,zF0 hn h12,show ((List.replicate 12 ([]:List Int)).length:Int)=12 from by simp,hl];simp only [qa,qd,ziU t (by omega)];rw [qb (by rw [zd3];omega),zlM _ (by omega)];simp only [qa,zFi σ hn h12 t]
theorem zHZ (s:TSign) (x y:List Int) (σ:Int->List Int) (n:Int) (t:List Int) (hn:n<0) (h12: -12<=n) (ht:t.length<=40) (hσ: ∀k:Nat,k<12->smT (σ (k:Int))∧(σ (k:Int)).length<=40): ∀(j k:Nat),k+j=12->(zO M x y s (tab fun i=>if i<k then putS σ n t i else σ (i:Int)) n t (tabS (oneS n t)) 12 k=some (.inl (x,y,s,tab (putS σ n t),n,t,()))∧ ∀i,k<=i->i<12->(putS σ n t i).length<=40)∨
  (zO M x y s (tab fun i=>if i<k then putS σ n t i else σ (i:Int)) n t (tabS (oneS n t)) 12 k=some (.inr (([],false,()),()))∧ ∃i,i<12∧40<(putS σ n t i).length):=by
 intro j
 induction j with
 | zero=>
  intro k hk;obtain rfl:k=12:=by omega
  refine .inl ⟨zeX _ _ _ _ _ _ _ _ _ ?_,fun i h1 h2=>by omega⟩;simp only [zcb];rw [qc (by simp)];have:tab (fun i=>if i<12 then putS σ n t i else σ (i:Int))=tab (putS σ n t):=zer fun i hi=>by rw [qb hi]
  rw [this,za]
 | succ j ih=>
  intro k hk;have h1:k<12:=by omega
  obtain ⟨s1,s2⟩:=hσ k h1;have hcur:(tab fun i=>if i<k then putS σ n t i else σ (i:Int))[k]?=some (σ (k:Int)):=by rw [zlM _ h1,qc (by omega)]
  have hlen:((tab fun i=>if i<k then putS σ n t i else σ (i:Int)).length:Int)=12:=by rw [zd3];rfl
  by_cases hs:σ (k:Int)= []
  ·have hp:putS σ n t k= []:=by unfold putS;rw [qc (by simpa using hs)]
   have e:(tab fun i=>if i<k then putS σ n t i else σ (i:Int))=tab fun i=>if i<k+1 then putS σ n t i else σ (i:Int):=by
    refine zer fun i hi=>?_
    by_cases q:i<k
    ·rw [qb q,qb (by omega)]
    ·rw [qc q];by_cases e:i=k
     ·rw [qb (by omega),e,hp,hs]
     ·rw [qc (by omega)]
   have step: ∀r,zO M x y s (tab fun i=>if i<k+1 then putS σ n t i else σ (i:Int)) n t (tabS (oneS n t)) 12 ((k+1:Nat):Int)=some r->zO M x y s (tab fun i=>if i<k then putS σ n t i else σ (i:Int)) n t (tabS (oneS n t)) 12 k=some r:=by
    intro r hr;apply zeX;simp only [zcb];rw [qb (by simp;omega),qb (by rw [hlen];omega),qo,hcur];simp only [qa];rw [qc (by simp [hs])];simp only [qa,qd,za];rw [zb (by omega),e];exact hr
   rcases ih (k+1) (by omega) with ⟨q1,q2⟩ | ⟨q1,q2⟩
   ·refine .inl ⟨step _ q1,fun i hi hi'=>?_⟩;by_cases e:i=k
    ·rw [e,hp];simp
    ·exact q2 i (by omega) hi'
   ·exact .inr ⟨step _ q1,q2⟩
  ·have hl:=qX.2 hs;have hp:putS σ n t k=apS (oneS n t) (σ (k:Int)):=by unfold putS;rw [qb hs]
   have happ:=zsI _ _ (zeJ (oneS n t)) (zxS ht) (σ (k:Int)) (by omega) s1.2;rw [<-hp] at happ;by_cases h40:(putS σ n t k).length<=40
   ·rw [qb h40] at happ
    have e:(tab fun i=>if i<k then putS σ n t i else σ (i:Int)).set k (putS σ n t k)=tab fun i=>if i<k+1 then putS σ n t i else σ (i:Int):=by
     rw [zuZ _ h1];refine zer fun i hi=>?_
     by_cases e:i=k
     ·rw [qb e,qb (by omega),e]
     ·rw [qc e];by_cases q:i<k
      ·rw [qb q,qb (by omega)]
      ·rw [qc q,qc (by omega)]
    have step: ∀r,zO M x y s (tab fun i=>if i<k+1 then putS σ n t i else σ (i:Int)) n t (tabS (oneS n t)) 12 ((k+1:Nat):Int)=some r->zO M x y s (tab fun i=>if i<k then putS σ n t i else σ (i:Int)) n t (tabS (oneS n t)) 12 k=some r:=by
     intro r hr;apply zeX;simp only [zcb];rw [qb (by simp;omega),qb (by rw [hlen];omega),qo,hcur];simp only [qa];rw [qb (by simp;omega),happ];simp only [qa];rw [qb (by rw [hlen];omega)]
     try simp only [qa]
     rw [qc (by simp)];simp only [qa,qd,za];rw [zb (by omega),e];exact hr
    rcases ih (k+1) (by omega) with ⟨q1,q2⟩ | ⟨q1,q2⟩
    ·refine .inl ⟨step _ q1,fun i hi hi'=>?_⟩;by_cases e:i=k
     ·rw [e];exact h40
     ·exact q2 i (by omega) hi'
    ·exact .inr ⟨step _ q1,q2⟩
   ·rw [qc h40] at happ;refine .inr ⟨zeX _ _ _ _ _ _ _ _ _ ?_,k,h1,by omega⟩;simp only [zcb];rw [qb (by simp;omega),qb (by rw [hlen];omega),qo,hcur];simp only [qa];rw [qb (by simp;omega),happ];simp only [qa];rw [qb (by rw [hlen];omega)]
    try simp only [qa]
    rw [qb (by simp)];rfl
theorem zFJ (s:TSign) (hg:gS s.1=true) (x y:List Int) (l:List (List Int)) (hl:l.length<=100) (hx: ∀t∈l,t.length<=1048576): ∀k i:Nat,i+k=l.length->zgu M x y s l l.length i=some (if (l.drop i).all (fun t=>t.isEmpty || isT s.1 t)=true then .inl (x,y,s,()) else .inr ((false,()),())):=by
 intro k
 induction k with
 | zero=>
  intro i hi;obtain rfl:i=l.length:=by omega
  apply ztu;simp only [zkF];rw [qc (by simp)]
  simp
 | succ k ih=>
  intro i hi;have h1:i<l.length:=by omega
  have h2:=hx _ (qi h1);apply ztu;simp only [zkF];rw [qb (by simpa using h1),zd h1,zb (by omega)];simp only [qa,za,ih (i+1) (by omega)];rw [qj h1,qR];by_cases he:l[i]= []
  ·rw [qc (by simp [he])];simp [he]
  ·have hp:=qX.2 he;rw [qb (by simp;omega),zsv s hg _ h2];simp only [qa]
   have:l[i].isEmpty=false:=by cases h:l[i] with
    | nil=>exact absurd h he
    | cons _ _=>rfl
   rw [this,Bool.false_or]
   cases isT s.1 l[i] with
   | false=>rfl
   | true=>simp
theorem zDc (s:TSign) (hg:gS s.1=true) (l:List (List Int)) (hl:l.length<=100) (hx: ∀t∈l,t.length<=1048576) (x y:List Int) (lx:x.length<=1048576) (ly:y.length<=1048576):zl6 M s l x y=some ((l.all (fun t=>t.isEmpty || isT s.1 t)&&(isT s.1 x&&isT s.1 y),()),()):=by
 apply zCS;have:=zFJ s hg x y l hl hx l.length 0 (by omega);rw [e0x,qk] at this;simp only [zss,za,this,qa]
 cases l.all fun t=>t.isEmpty || isT s.1 t with
 | false=>rfl
 | true=>
  simp only [qf,qd,za,zsv s hg x lx,zsv s hg y ly,qa];cases isT s.1 x<;>rfl
theorem zJv (a b:List Int) (s:TSign) (f:List (List Int)) (x y:List Int) (hx:x.length<=1048576): ∀k i:Nat,i+k=lcp x y->zgI M a b s f x y i=some (.inl (a,b,s,f,x,y,(lcp x y:Int),())):=by
 intro k;have hle:=zBk x y
 induction k with
 | zero=>
  intro i hi;obtain rfl:i=lcp x y:=by omega
  apply zrw;simp only [zjc,za];by_cases h1:lcp x y<x.length
  ·rw [qb (by simpa using h1)];by_cases h2:lcp x y<y.length
   ·rw [qb (by simpa using h2),qb (by omega),qo,qu h1];simp only [qa];rw [qb (by omega),qu h2];simp only [qa];rw [qc (by simpa using zBO x y h1 h2)]
   ·rw [qc (by simpa using h2)]
  ·rw [qc (by simpa using h1)]
 | succ k ih=>
  intro i hi;have h1:i<x.length:=by omega
  have h2:i<y.length:=by omega
  have he:=zCv x y i (by omega);rw [qu h1,qu h2] at he;apply zrw;simp only [zjc,za];rw [qb (by simpa using h1),qb (by simpa using h2),qb (by omega),qo,qu h1];simp only [qa];rw [qb (by omega),qu h2];simp only [qa];rw [qb (by simpa using qh he),zb (by omega)];exact ih (i+1) (by omega)
theorem zKc (s:TSign) (f:List (List Int)) (x y:List Int) (hx:x.length<=1048576): ∀k i:Nat,i+k=lcp x y->zfd M x y s f i=some (.inl (x,y,s,f,(lcp x y:Int),())):=by
 intro k;have hle:=zBk x y
 induction k with
 | zero=>
  intro i hi;obtain rfl:i=lcp x y:=by omega
  apply zps;simp only [zhe,za];by_cases h1:lcp x y<x.length
  ·rw [qb (by simpa using h1)];by_cases h2:lcp x y<y.length
   ·rw [qb (by simpa using h2),zd h1,zd h2];simp only [qa];rw [qc (by simpa using zBO x y h1 h2)]
   ·rw [qc (by simpa using h2)]
  ·rw [qc (by simpa using h1)]
 | succ k ih=>
  intro i hi;have h1:i<x.length:=by omega
  have h2:i<y.length:=by omega
  have he:=zCv x y i (by omega);rw [qu h1,qu h2] at he;apply zps;simp only [zhe,za];rw [qb (by simpa using h1),qb (by simpa using h2),zd h1,zd h2];simp only [qa];rw [qb (by simpa using qh he),zb (by omega)];exact ih (i+1) (by omega)
theorem zti {a:List Int}: ∀(t:List Int) (k:Int),sE a k t=some []-> ∀n∈t,-12<=n∧n<a.length
 | [],_,_,n,hn=>by cases hn
 | m::t,k,h,n,hn=>by
  simp only [sE] at h;split at h
  ·cases h
  ·split at h
   ·cases h
   ·rename_i hb;unfold badN at hb;rcases qz.1 hn with rfl | hn
    ·omega
    ·exact zti t _ h n hn
theorem zf {a t:List Int}:isT a t=true↔t.length<=40∧Tm a t:=by simp [isT]
theorem zbA {a t:List Int} (h:isT a t=true):smT t:=by
 obtain ⟨h1,h2⟩:=zf.1 h;exact ⟨by omega,fun n hn=>(zti t 1 h2 n hn).1⟩
def okU (a:List Int) (σ:Int->List Int):Prop:=(∀v,σ v≠ []->isT a (σ v)=true∧0<=v∧v<=11)∧ ∀u,Free σ (σ u)
theorem okU.sm {a:List Int} {σ:Int->List Int} (h:okU a σ) (k:Nat):smT (σ (k:Int))∧(σ (k:Int)).length<=40:=by
 by_cases e:σ (k:Int)= []
 ·rw [e];exact ⟨⟨by simp,by simp⟩,by simp⟩
 ·have:=(h.1 _ e).1;exact ⟨zbA this,(zf.1 this).1⟩
theorem okU.len {a:List Int} {σ:Int->List Int} (h:okU a σ) (v:Int):(σ v).length<=40:=by
 by_cases e:σ v= []
 ·rw [e];simp
 ·exact (zf.1 (h.1 _ e).1).1
theorem Free.apS {σ:Int->List Int} (hi: ∀u,Free σ (σ u)): ∀T:List Int,Free σ (apS σ T)
 | [],m,hm,_=>by cases hm
 | n::T,m,hm,h0=>by
  rw [zdg,qr] at hm;rcases hm with hm | hm
  ·by_cases hn:n<0∧σ (-1-n)≠ []
   ·rw [zis hn.1 hn.2] at hm;exact hi _ m hm h0
   ·have hr:rp σ n= [n]:=by
     by_cases q:n<0
     ·exact zqO (by
       by_cases e:σ (-1-n)= []
       ·exact e
       ·exact absurd ⟨q,e⟩ hn)
     ·exact zmM (by omega)
    rw [hr,qM] at hm;subst hm;by_cases e:σ (-1-m)= []
    ·exact e
    ·exact absurd ⟨h0,e⟩ hn
  ·exact Free.apS hi T m hm h0
noncomputable def contI (x y:List Int) (s:TSign) (f:List (List Int)) (n:Int) (t:List Int):Option (Unit⊕((List (List Int))×Bool×Unit)×Unit):=((zbJ M t n).bind fun r35=>(if r35.1.1=true then (some (.inr (([],false,()),()))) else (if 0<=(12:Int)∧((24:Nat):Int)*(12:Int)<=140737488355328∧(12:Int)=(12:Int) then (if 0<=(IntKind.i64.wrap ((-1:Int)-n))∧(IntKind.i64.wrap ((-1:Int)-n))<(List.length (List.replicate (Int.toNat (12:Int)) ([]:List Int)):Int) then (((List.replicate (Int.toNat (12:Int)) ([]:List Int))[(Int.toNat (IntKind.i64.wrap ((-1:Int)-n)))]?).bind fun x36=>((zcD M ((List.replicate (Int.toNat (12:Int)) ([]:List Int)).set (Int.toNat (IntKind.i64.wrap ((-1:Int)-n))) t) x).bind fun r37=>((zcD M ((List.replicate (Int.toNat (12:Int)) ([]:List Int)).set (Int.toNat (IntKind.i64.wrap ((-1:Int)-n))) t) y).bind fun r38=>(if (!r37.1.2.1)=true then (some (.inr (([],false,()),()))) else (if (!r38.1.2.1)=true then (some (.inr (([],false,()),()))) else ((zO M r37.1.1 r38.1.1 s f n t ((List.replicate (Int.toNat (12:Int)) ([]:List Int)).set (Int.toNat (IntKind.i64.wrap ((-1:Int)-n))) t) (List.length f:Int) (0:Int)).bind (Sum.elim (fun y39=>(if List.length y39.2.2.2.2.2.1*8<=140737488355328 then (if 0<=(IntKind.i64.wrap ((-1:Int)-y39.2.2.2.2.1))∧(IntKind.i64.wrap ((-1:Int)-y39.2.2.2.2.1))<(List.length y39.2.2.2.1:Int) then ((y39.2.2.2.1[(Int.toNat (IntKind.i64.wrap ((-1:Int)-y39.2.2.2.2.1)))]?).bind fun x41=>(zbh M y39.1 y39.2.1 (y39.2.2.1.1,()) (y39.2.2.2.1.set (Int.toNat (IntKind.i64.wrap ((-1:Int)-y39.2.2.2.2.1))) y39.2.2.2.2.2.1))) else none) else none)) (fun r40=>(some (.inr r40)))))))))) else none) else none)))
noncomputable def contS (a b:List Int) (s:TSign) (f:List (List Int)) (v:Int) (t:List Int):Option (Unit⊕((List (List Int))×Bool×Unit)×Unit):=((zfY M t (IntKind.i64.wrap ((-1:Int)-v))).bind fun r10=>(if r10.1.1=true then (some (.inr (([],false,()),()))) else ((zkk M f v t).bind fun r11=>((zA M r11.1.1 a).bind fun r12=>((zA M r11.1.1 b).bind fun r13=>(zbg M a b s r11.1.1 r12.1.1 r13.1.1))))))
def goodU (a a0 b0:List Int) (r:((List (List Int))×Bool×Unit)×Unit):Prop:=r.1.2.1=true-> ∃τ,okU a τ∧r.1.1=tabS τ∧apS τ a0=apS τ b0∧(apS τ a0).length<=40
def failU:((List (List Int))×Bool×Unit)×Unit:=(([],false,()),())
theorem zqT (a a0 b0:List Int):goodU a a0 b0 failU:=fun h=>by cases h
section
variable (s : TSign) (hg : gS s.1 = true) (a0 b0 : List Int) (ha : isT s.1 a0 = true) (hb : isT s.1 b0 = true)
include hg ha hb
omit ha hb in
theorem zBQ (τ:Int->List Int) (hl: ∀v,(τ v).length<=100000) (x y:List Int) (lx:x.length<=100000) (ly:y.length<=100000) (h:40<x.length∨40<y.length∨ ∃k:Nat,k<12∧40<(τ (k:Int)).length):zbg M a0 b0 s (tabS τ) x y=some (.inr failU):=by
 have hs:=zDc s hg (tabS τ) (by rw [zd3];omega) (fun t ht=>by obtain ⟨k,_,rfl⟩:=zzH ht;have:=hl (k:Int);omega) x y (by omega) (by omega)
 have hf:((tabS τ).all (fun t=>t.isEmpty || isT s.1 t)&&(isT s.1 x&&isT s.1 y))=false:=by
  have ne: ∀z:List Int,40<z.length->isT s.1 z=false:=fun z hz=>by
   cases e:isT s.1 z with
   | false=>rfl
   | true=>have:=(zf.1 e).1;omega
  rcases h with h | h | ⟨k,hk,h⟩
  ·rw [ne _ h];simp
  ·rw [ne _ h];simp
  ·have:(tabS τ).all (fun t=>t.isEmpty || isT s.1 t)=false:=by
    rw [List.all_eq_false];refine ⟨τ (k:Int),qQ.2 ⟨k,by simpa using hk,rfl⟩,?_⟩;rw [ne _ h]
    cases e:τ (k:Int) with
    | nil=>rw [e] at h;simp at h
    | cons _ _=>simp
   rw [this];rfl
 rw [hf] at hs;apply zdF;simp only [zcd,za,hs,qa];rfl
theorem zKO (σ:Int->List Int) (hσ:okU s.1 σ) (hx:(apS σ a0).length<=40) (hy:(apS σ b0).length<=40)
  (ih: ∀τ,okU s.1 τ->nbound σ<nbound τ->(apS τ a0).length<=40->(apS τ b0).length<=40-> ∃r,zbh M (apS τ a0) (apS τ b0) s (tabS τ)=some (.inr r)∧zbg M a0 b0 s (tabS τ) (apS τ a0) (apS τ b0)=some (.inr r)∧goodU s.1 a0 b0 r)
  (n:Int) (t:List Int) (hn:n<0) (h12: -12<=n) (ht:isT s.1 t=true) (hft:Free σ t) (hb0:σ (-1-n)= []):
  ∃r,contI (apS σ a0) (apS σ b0) s (tabS σ) n t=some (.inr r)∧contS a0 b0 s (tabS σ) (-1-n) t=some (.inr r)∧goodU s.1 a0 b0 r:=by
 obtain ⟨t1,t2⟩:=zf.1 ht;obtain ⟨a1,a2⟩:=zf.1 ha;obtain ⟨b1,b2⟩:=zf.1 hb;have tne:t≠ []:=qX.1 (Tm.pos t2);have hw:IntKind.i64.wrap (-1-n)= -1-n:=w64 (by omega) (by omega);have hw2:IntKind.i64.wrap (-1-(-1-n))=n:=by rw [w64 (by omega) (by omega)];omega
 by_cases hin:n∈t
 ·refine ⟨failU,?_,?_,zqT _ _ _⟩
  ·simp only [contI,zuS t n (by omega),qp hin,qa];rfl
  ·simp only [contS,hw2,zEG t n (by omega),qp hin,qa];rfl
 ·let τ:=bindS σ n t
  have hTσ: ∀v,σ v≠ []->Tm s.1 (σ v):=fun v h=>(zf.1 (hσ.1 v h).1).2
  have hTτ: ∀v,τ v≠ []->Tm s.1 (τ v):=zJj hg hTσ t2
  have l60: ∀v,(oneS n t v).length<=60:=fun v=>by
   unfold oneS;split
   ·omega
   ·simp
  have lτ: ∀v,(τ v).length<=100000:=by
   intro v;show (bindS σ n t v).length<=100000;unfold bindS;split
   ·omega
   ·split
    ·have:=zkp l60 (σ v);have:=hσ.len v;omega
    ·simp
  have smx:smT (apS σ a0):=⟨by omega,fun m hm=>(zti _ 1 (zkt hg hTσ a2) m hm).1⟩;have smy:smT (apS σ b0):=⟨by omega,fun m hm=>(zti _ 1 (zkt hg hTσ b2) m hm).1⟩;have ex:apS τ a0=apS (oneS n t) (apS σ a0):=zAX hn tne hb0 a0;have ey:apS τ b0=apS (oneS n t) (apS σ b0):=zAX hn tne hb0 b0;have lx:(apS τ a0).length<=100000:=by rw [ex];have:=zkp l60 (apS σ a0);omega
  have ly:(apS τ b0).length<=100000:=by rw [ey];have:=zkp l60 (apS σ b0);omega
  have bnd:=zKb σ n t hn h12 t1 (fun k _=>hσ.sm k);have apa:=zfZ _ _ (zeJ τ) lτ a0 (by omega) (zbA ha).2;have apb:=zfZ _ _ (zeJ τ) lτ b0 (by omega) (zbA hb).2
  have hS:contS a0 b0 s (tabS σ) (-1-n) t=zbg M a0 b0 s (tabS τ) (apS τ a0) (apS τ b0):=by
   simp only [contS,hw2,zEG t n (by omega),qA hin,qg,qe,bnd,qa];rw [apa];simp only [qa];rw [apb];rfl
  have aI:=zsI _ _ (zeJ (oneS n t)) (zxS t1) (apS σ a0) (by omega) smx.2;have bI:=zsI _ _ (zeJ (oneS n t)) (zxS t1) (apS σ b0) (by omega) smy.2;rw [<-ex] at aI;rw [<-ey] at bI;have lp:=zHZ s (apS τ a0) (apS τ b0) σ n t hn h12 t1 (fun k _=>hσ.sm k) 12 0 (by omega);have e0:(tab fun i=>if i<0 then putS σ n t i else σ (i:Int))=tabS σ:=zer fun i _=>by rw [qc (by omega)]
  rw [e0,e0x] at lp;have hlen:((tabS σ).length:Int)=12:=by rw [zd3];rfl
  have headI: ∀r,(zcD M (tabS (oneS n t)) (apS σ a0)).bind (fun r37=>(zcD M (tabS (oneS n t)) (apS σ b0)).bind fun r38=>if (!r37.1.2.1)=true then some (.inr (([],false,()),())) else if (!r38.1.2.1)=true then some (.inr (([],false,()),())) else (zO M r37.1.1 r38.1.1 s (tabS σ) n t (tabS (oneS n t)) 12 0).bind (Sum.elim (fun y39=>if y39.2.2.2.2.2.1.length*8<=140737488355328 then if 0<=IntKind.i64.wrap (-1-y39.2.2.2.2.1)∧IntKind.i64.wrap (-1-y39.2.2.2.2.1)<(y39.2.2.2.1.length:Int) then (y39.2.2.2.1[(IntKind.i64.wrap (-1-y39.2.2.2.2.1)).toNat]?).bind fun x41=>zbh M y39.1 y39.2.1 (y39.2.2.1.1,()) (y39.2.2.2.1.set (IntKind.i64.wrap (-1-y39.2.2.2.2.1)).toNat y39.2.2.2.2.2.1) else none else none) fun r40=>some (.inr r40)))=some (.inr r)->contI (apS σ a0) (apS σ b0) s (tabS σ) n t=some (.inr r):=by
   intro r hr;simp only [contI,zuS t n (by omega),qA hin,qg,qe,qa,hw];rw [qb ⟨by decide,by decide,trivial⟩,show (12:Int).toNat=12 from rfl,qb (by simp;omega),qu (by simp;omega)];simp only [qa];rw [zF0 hn h12,hlen];exact hr
  by_cases bx:(apS τ a0).length<=40
  ·rw [qb bx] at aI;by_cases bY:(apS τ b0).length<=40
   ·rw [qb bY] at bI;rcases lp with ⟨q1,q2⟩ | ⟨q1,k,k1,k2⟩
    ·have hok:okU s.1 τ:=by
      refine ⟨fun v hv=>?_,zIq hn tne hσ.2 hft hin⟩
      have hdom:0<=v∧v<=11:=by
       by_cases e:v= -1-n
       ·omega
       ·by_cases q:σ v= []
        ·refine absurd ?_ hv;show bindS σ n t v= [];unfold bindS;rw [qc e,qc (by simpa using q)]
        ·exact (hσ.1 v q).2
      refine ⟨zf.2 ⟨?_,hTτ v hv⟩,hdom⟩;show (bindS σ n t v).length<=40;by_cases e:v= -1-n
      ·unfold bindS;rw [qb e];exact t1
      ·have:=q2 v.toNat (Nat.zero_le _) (by omega);unfold putS at this;rw [show ((v.toNat:Nat):Int)=v by omega] at this;unfold bindS;rw [qc e];exact this
     obtain ⟨r,r1,r2,r3⟩:=ih τ hok (zFL hn h12 tne hb0) bx bY;refine ⟨r,headI r ?_,by rw [hS];exact r2,r3⟩;rw [aI];simp only [qa];rw [bI];simp only [qa,qm,qg,qe,q1,qd,za,hw];rw [qb (by omega),qb (by rw [zd3];omega),zlM _ (by omega)];simp only [qa,zFi σ hn h12 t];exact r1
    ·refine ⟨failU,headI _ ?_,?_,zqT _ _ _⟩
     ·rw [aI];simp only [qa];rw [bI];simp only [qa,qm,qg,qe,q1,qF];rfl
     ·rw [hS];refine zBQ s hg a0 b0 τ lτ _ _ lx ly (.inr (.inr ⟨k,k1,?_⟩));show 40<(bindS σ n t (k:Int)).length;have hk2:=k2;unfold putS at hk2;by_cases e:(k:Int)= -1-n
      ·exfalso;rw [qc (by rw [e,hb0];simp)] at hk2;simp at hk2
      ·unfold bindS;rw [qc e];exact hk2
   ·rw [qc bY] at bI;refine ⟨failU,headI _ ?_,by rw [hS];exact zBQ s hg a0 b0 τ lτ _ _ lx ly (.inr (.inl (by omega))),zqT _ _ _⟩;rw [aI];simp only [qa];rw [bI];rfl
  ·rw [qc bx] at aI;refine ⟨failU,headI _ ?_,by rw [hS];exact zBQ s hg a0 b0 τ lτ _ _ lx ly (.inl (by omega)),zqT _ _ _⟩;rw [aI];simp only [qa];rw [bI];split<;>rfl
theorem zFb (σ:Int->List Int) (hσ:okU s.1 σ) (hx:(apS σ a0).length<=40) (hy:(apS σ b0).length<=40)
  (ih: ∀τ,okU s.1 τ->nbound σ<nbound τ->(apS τ a0).length<=40->(apS τ b0).length<=40-> ∃r,zbh M (apS τ a0) (apS τ b0) s (tabS τ)=some (.inr r)∧zbg M a0 b0 s (tabS τ) (apS τ a0) (apS τ b0)=some (.inr r)∧goodU s.1 a0 b0 r):
  ∃r,zbh M (apS σ a0) (apS σ b0) s (tabS σ)=some (.inr r)∧zbg M a0 b0 s (tabS σ) (apS σ a0) (apS σ b0)=some (.inr r)∧goodU s.1 a0 b0 r:=by
 have step:=zKO s hg a0 b0 ha hb σ hσ hx hy ih;obtain ⟨a1,a2⟩:=zf.1 ha;obtain ⟨b1,b2⟩:=zf.1 hb;have hTσ: ∀v,σ v≠ []->Tm s.1 (σ v):=fun v h=>(zf.1 (hσ.1 v h).1).2
 have tx:Tm s.1 (apS σ a0):=zkt hg hTσ a2;have ty:Tm s.1 (apS σ b0):=zkt hg hTσ b2;have fx:Free σ (apS σ a0):=Free.apS hσ.2 a0;have fy:Free σ (apS σ b0):=Free.apS hσ.2 b0;generalize hX:apS σ a0=x at *;generalize hY:apS σ b0=y at*
 have hsz:zl6 M s (tabS σ) x y=some ((true,()),()):=by
  rw [zDc s hg (tabS σ) (by rw [zd3];omega) (fun t ht=>by obtain ⟨k,_,rfl⟩:=zzH ht;have:=hσ.len (k:Int);omega) x y (by omega) (by omega),zf.2 ⟨hx,tx⟩,zf.2 ⟨hy,ty⟩]
  have:(tabS σ).all (fun t=>t.isEmpty || isT s.1 t)=true:=by
   rw [List.all_eq_true];intro t ht;obtain ⟨k,_,rfl⟩:=zzH ht;by_cases e:σ (k:Int)= []
   ·rw [e];rfl
   ·rw [(hσ.1 _ e).1];simp
  rw [this];rfl
 have hsl:s.1.length<=10:=by
  have hg':=hg;simp only [gS,qq,qt] at hg';exact hg'.2.1
 have alS:=zJv a0 b0 s (tabS σ) x y (by omega) (lcp x y) 0 (by omega);have alI:=zKc s (tabS σ) x y (by omega) (lcp x y) 0 (by omega);rw [e0x] at alS alI;have hle:=zBk x y;by_cases h1:lcp x y=x.length
 ·have exy:=zGm hg tx ty (.inl h1);refine ⟨((tabS σ,true,()),()),zdr _ _ _ _ ?_,zdF _ _ _ _ _ _ ?_,fun _=>⟨σ,hσ,rfl,by rw [hX,hY];exact exy,by rw [hX];exact hx⟩⟩
  ·simp only [zbX,za,alI,qa,qd];rw [qb (by simp [h1])]
  ·simp only [zcd,za,hsz,qa,qm,qg,qe,alS,qd];rw [qb (by simp [h1])]
 ·have h2:lcp x y≠y.length:=fun e=>by
   have exy:=zGm hg tx ty (.inr e);rw [e,exy] at h1;exact h1 rfl
  have i1:lcp x y<x.length:=by omega
  have i2:lcp x y<y.length:=by omega
  have hne:=zBO x y i1 i2;have ex:idx x (lcp x y:Int)=some x[lcp x y]:=zd i1;have ey:idx y (lcp x y:Int)=some y[lcp x y]:=zd i2;have mx:x[lcp x y]∈x:=qi i1;have my:y[lcp x y]∈y:=qi i2;have gx:x[lcp x y]?=some x[lcp x y]:=qu i1;have gy:y[lcp x y]?=some y[lcp x y]:=qu i2;have dx:x.drop (lcp x y)=x[lcp x y]::x.drop (lcp x y+1):=qj i1;have dy:y.drop (lcp x y)=y[lcp x y]::y.drop (lcp x y+1):=qj i2;have nx:=zti x 1 tx _ mx;have ny:=zti y 1 ty _ my
  have var: ∀k:Int,k<0-> -12<=k->Tm s.1 [k]:=fun k k0 k1=>by
   have hb: ¬badN s.1 k:=by unfold badN;omega
   show sE s.1 1 [k]=some [];simp only [sE];rw [qc (by omega),qc hb];unfold ar;rw [qb k0];rfl
  obtain ⟨ux,zx,px,qx,vx⟩: ∃u z,x.drop (lcp x y)=u++z∧Tm s.1 u∧(x[lcp x y]<0->u= [x[lcp x y]]):=by
   by_cases h:x[lcp x y]<0
   ·exact ⟨[x[lcp x y]],_,dx,var _ h nx.1,fun _=>rfl⟩
   ·obtain ⟨u,z,p,q⟩:=Tm.at hg tx i1;exact ⟨u,z,p,q,fun h'=>absurd h' h⟩
  obtain ⟨uy,zy,py,qy,vy⟩: ∃u z,y.drop (lcp x y)=u++z∧Tm s.1 u∧(y[lcp x y]<0->u= [y[lcp x y]]):=by
   by_cases h:y[lcp x y]<0
   ·exact ⟨[y[lcp x y]],_,dy,var _ h ny.1,fun _=>rfl⟩
   ·obtain ⟨u,z,p,q⟩:=Tm.at hg ty i2;exact ⟨u,z,p,q,fun h'=>absurd h' h⟩
  have pSx:=zs6 s hg x (by omega) px qx;have pSy:=zs6 s hg y (by omega) py qy;have pIx:=zzx s hg x (by omega) px qx;have pIy:=zzx s hg y (by omega) py qy
  have lux:ux.length<=40:=by
   have:=congrArg List.length px;simp at this;omega
  have luy:uy.length<=40:=by
   have:=congrArg List.length py;simp at this;omega
  have fux:Free σ ux:=fun k hk h0=>fx k (by
   have:k∈x.drop (lcp x y):=by rw [px];exact qw _ hk
   exact List.mem_of_mem_drop this) h0
  have fuy:Free σ uy:=fun k hk h0=>fy k (by
   have:k∈y.drop (lcp x y):=by rw [py];exact qw _ hk
   exact List.mem_of_mem_drop this) h0
  have hwx:IntKind.i64.wrap (-1-x[lcp x y])= -1-x[lcp x y]:=w64 (by omega) (by have:=nx.1;omega);have hwy:IntKind.i64.wrap (-1-y[lcp x y])= -1-y[lcp x y]:=w64 (by omega) (by have:=ny.1;omega);generalize hN:x[lcp x y]=n at *;generalize hM:y[lcp x y]=k at *;have e1:((lcp x y:Int)==(x.length:Int))=false:=by simp;omega
  have e2:((lcp x y:Int)==(y.length:Int))=false:=by simp;omega
  have hpx:0<=(lcp x y:Int)∧(lcp x y:Int)<(x.length:Int):=by omega
  have hpy:0<=(lcp x y:Int)∧(lcp x y:Int)<(y.length:Int):=by omega
  by_cases hn:n<0
  ·have dn0:decide (n>=0)=false:=by simp;omega
   have dn1:decide (n<0)=true:=by simpa using hn
   by_cases hk:k<0
   ·have dk0:decide (k>=0)=false:=by simp;omega
    have dk1:decide (k<0)=true:=by simpa using hk
    have hux:=vx hn;have huy:=vy hk;by_cases hlt:k<n
    ·obtain ⟨r,r1,r2,r3⟩:=step k ux hk ny.1 (zf.2 ⟨lux,qx⟩) fux (fy k my hk);have g1:decide (-1-k> -1-n)=true:=by simp;omega
     refine ⟨r,zdr _ _ _ _ ?_,zdF _ _ _ _ _ _ ?_,r3⟩
     ·simp only [zbX,za,alI,qa,qd,e1,e2,ex,ey,dn0,dn1,dk0,dk1,qg,qe,qf];rw [qb hlt,qc (show ¬k>n by omega),<-hux];exact r1
     ·simp only [zcd,za,hsz,qa,qm,qg,qe,alS,qd,e1,qb hpx,qb hpy,qo,gx,gy,dn0,dk1,hwx,hwy,pSy,pSx,g1,qf];exact r2
    ·obtain ⟨r,r1,r2,r3⟩:=step n uy hn nx.1 (zf.2 ⟨luy,qy⟩) fuy (fx n mx hn);have g1:decide (-1-k> -1-n)=false:=by simp;omega
     refine ⟨r,zdr _ _ _ _ ?_,zdF _ _ _ _ _ _ ?_,r3⟩
     ·simp only [zbX,za,alI,qa,qd,e1,e2,ex,ey,dn0,dn1,dk0,dk1,qg,qe,qf];rw [qc hlt,qb (show k>n by omega),<-huy];exact r1
     ·simp only [zcd,za,hsz,qa,qm,qg,qe,alS,qd,e1,qb hpx,qb hpy,qo,gx,gy,dn0,dk1,hwx,hwy,pSy,pSx,g1,qf];exact r2
   ·have dk0:decide (k>=0)=true:=by simp;omega
    have dk1:decide (k<0)=false:=by simpa using hk
    obtain ⟨r,r1,r2,r3⟩:=step n uy hn nx.1 (zf.2 ⟨luy,qy⟩) fuy (fx n mx hn);refine ⟨r,zdr _ _ _ _ ?_,zdF _ _ _ _ _ _ ?_,r3⟩
    ·simp only [zbX,za,alI,qa,qd,e1,e2,ex,ey,dn0,dn1,dk0,dk1,qg,qe,qf,pIy];exact r1
    ·simp only [zcd,za,hsz,qa,qm,qg,qe,alS,qd,e1,qb hpx,qb hpy,qo,gx,gy,dn0,dk1,hwx,hwy,pSy,pSx,qf];exact r2
  ·have dn0:decide (n>=0)=true:=by simp;omega
   have dn1:decide (n<0)=false:=by simpa using hn
   by_cases hk:k<0
   ·have dk0:decide (k>=0)=false:=by simp;omega
    have dk1:decide (k<0)=true:=by simpa using hk
    obtain ⟨r,r1,r2,r3⟩:=step k ux hk ny.1 (zf.2 ⟨lux,qx⟩) fux (fy k my hk);refine ⟨r,zdr _ _ _ _ ?_,zdF _ _ _ _ _ _ ?_,r3⟩
    ·simp only [zbX,za,alI,qa,qd,e1,e2,ex,ey,dn0,dn1,dk0,dk1,qg,qe,qf,pIx];exact r1
    ·simp only [zcd,za,hsz,qa,qm,qg,qe,alS,qd,e1,qb hpx,qb hpy,qo,gx,gy,dn0,dk0,dk1,hwx,hwy,pSy,pSx,qf];exact r2
   ·have dk0:decide (k>=0)=true:=by simp;omega
    refine ⟨failU,zdr _ _ _ _ ?_,zdF _ _ _ _ _ _ ?_,zqT _ _ _⟩
    ·simp only [zbX,za,alI,qa,qd,e1,e2,ex,ey,dn0,dk0,qg,qe,qf];rfl
    ·simp only [zcd,za,hsz,qa,qm,qg,qe,alS,qd,e1,qb hpx,qb hpy,qo,gx,gy,dn0,dk0,qf];rfl
theorem zKX: ∀(m:Nat) (σ:Int->List Int),12-nbound σ<=m->okU s.1 σ->(apS σ a0).length<=40->(apS σ b0).length<=40-> ∃r,zbh M (apS σ a0) (apS σ b0) s (tabS σ)=some (.inr r)∧zbg M a0 b0 s (tabS σ) (apS σ a0) (apS σ b0)=some (.inr r)∧goodU s.1 a0 b0 r:=by
 intro m
 induction m with
 | zero=>
  intro σ hm hσ hx hy;refine zFb s hg a0 b0 ha hb σ hσ hx hy (fun τ _ hlt _ _=>?_);have:=zC1 τ
  omega
 | succ m ih=>
  intro σ hm hσ hx hy;refine zFb s hg a0 b0 ha hb σ hσ hx hy (fun τ hτ hlt h1 h2=>ih τ ?_ hτ h1 h2);have:=zC1 τ;omega
theorem zBU: ∃r,zgy M s a0 b0=some r∧zjn M s a0 b0=some r∧goodU s.1 a0 b0 r:=by
 obtain ⟨a1,a2⟩:=zf.1 ha;obtain ⟨b1,b2⟩:=zf.1 hb;have h0:okU s.1 (fun _=> []):=⟨fun v h=>absurd rfl h,fun u m hm=>by cases hm⟩;have e: ∀T:List Int,apS (fun _=> []) T=T:=fun T=>zAu (fun m _ _=>rfl)
 obtain ⟨r,r1,r2,r3⟩:=zKX s hg a0 b0 ha hb 12 (fun _=> []) (by omega) h0 (by rw [e];exact a1) (by rw [e];exact b1);rw [e,e] at r1 r2;refine ⟨r,zz3 _ _ _ ?_,zCP _ _ _ ?_,r3⟩
 ·simp only [zo5];rw [qb ⟨by decide,by decide,trivial⟩,show (12:Int).toNat=12 from rfl,za,show List.replicate 12 ([]:List Int)=tabS (fun _=> []) from rfl,r1];rfl
 ·simp only [zsm];rw [qb ⟨by decide,by decide,trivial⟩,show (12:Int).toNat=12 from rfl,za,ziU a0 (by omega),ziU b0 (by omega)];simp only [qa];rw [show List.replicate 12 ([]:List Int)=tabS (fun _=> []) from rfl,r2];rfl
end
theorem zKr (s:TSign) (hg:gS s.1=true) (t:List Int):zht M t s=some ((!isT s.1 t,()),()):=by
 apply zwe;simp only [zla,zC,zA1 s hg t,qa]
theorem zD6 (s:TSign) (hg:gS s.1=true) (a:List (List Int)) (ha:a.length<=17592186044416): ∀k i:Nat,i+k=a.length-> ∃r,zR M a (s,()) a.length i=some r∧(match r with | .inl _=>(a.drop i).all (isT s.1)=true | .inr r=>0<=r.1.1∧(a.drop i).all (isT s.1)=false):=by
 intro k
 induction k with
 | zero=>
  intro i hi;obtain rfl:i=a.length:=by omega
  refine ⟨.inl (),zbj _ _ _ _ (by simp [zM]),by simp⟩
 | succ k ih=>
  intro i hi;have h1:i<a.length:=by omega
  obtain ⟨r,hr,hm⟩:=ih (i+1) (by omega);rw [qj h1,qR];by_cases hp:isT s.1 a[i]=true
  ·refine ⟨r,zbj _ _ _ _ ?_,by rw [hp,Bool.true_and];exact hm⟩;simp only [zM];rw [qb (by simpa using h1),zd h1,zb (by omega)];simp only [qa,zKr s hg,hp,qm,qg,qe];exact hr
  ·rw [Bool.not_eq_true] at hp;refine ⟨.inr (((i:Int),()),()),zbj _ _ _ _ ?_,Int.natCast_nonneg i,by rw [hp,Bool.false_and]⟩;simp only [zM];rw [qb (by simpa using h1),zd h1];simp only [qa,zKr s hg,hp,qO,qf]
theorem zGz (s:TSign) (hg:gS s.1=true) (a:List (List Int)) (ha:a.length<=17592186044416):zf8 M s a=some ((a.all (isT s.1),()),()):=by
 obtain ⟨r,hr,hm⟩:=zD6 s hg a ha a.length 0 (by omega);rw [e0x] at hr;rw [qk] at hm
 have key:zau M a (s,())=some ((!(a.all (isT s.1)),()),()):=by
  apply zhM;simp only [zbl]
  cases r with
  | inl r=>
   rw [zc7 a (s,()) (r:=((-1,()),())) (by simp only [zaF,hr,qa,qd])];simp only at hm
   simp [hm]
  | inr r=>
   rw [zc7 a (s,()) (r:=r) (by simp only [zaF,hr,qa,qF])];simp only at hm;simp [hm]
 apply zxr;simp only [zmv,zC,key,qa,Bool.not_not]
theorem zsS (c:List TLit) (ts:List (List Int)) (hc:c.length<=1000000) (hl:2*c.length<=ts.length):zdG M c ts=some ((wtZ c ts,()),()):=by
 apply zAW;simp only [zqb];rw [qb ⟨hc,hl⟩]
def far (L:List Int):Int:=match L.getLast? with
 | some v=>v+1
 | none=>0
theorem zCh {L:List Int} (h:0<L.length): ∃v,L[L.length-1]?=some v∧far L=v+1∧v∈L:=by
 have h1:L.length-1<L.length:=by omega
 refine ⟨L[L.length-1],qu h1,?_,qi h1⟩;unfold far;rw [List.getLast?_eq_getElem?,qu h1]
theorem zCK {L:List Int} (h: ∀v∈L,0<=v∧v<=11):0<=far L∧far L<=12:=by
 by_cases h0:0<L.length
 ·obtain ⟨v,_,e,hv⟩:=zCh h0;have:=h v hv;omega
 ·have:L= []:=wd.1 (by omega);subst this;simp [far]
theorem zHE (c:List TLit) (hl:c.length<=1000) (hc: ∀x∈c,liV x):zoG M c=some ((far (upTo (inV (tms c))),()),()):=by
 apply zB4;simp only [zsw,zKj c hl hc,qa];have hlen:=zxh (inV (tms c));by_cases h0:0<(upTo (inV (tms c))).length
 ·obtain ⟨v,e1,e2,hv⟩:=zCh h0;have hb:=zjz.1 hv;rw [qc (by simp;intro h;rw [h] at h0;simp at h0),w64 (by omega) (by omega),qb (by omega),show ((upTo (inV (tms c))).length:Int)-1=(((upTo (inV (tms c))).length-1:Nat):Int) by omega,qo,e1];simp only [qa];rw [w64 (by omega) (by omega),e2]
 ·have:upTo (inV (tms c))= []:=wd.1 (by omega);rw [this];simp [far]
def shl (by':Int) (x:TLit):TLit:=(x.1,x.2.1.map (shn by'),x.2.2.1.map (shn by'),())
theorem zCa (s:TSign) (by':Int) (h0:0<=by') (h1:by'<=1000) (d:List TLit) (hl:d.length<=1000) (hd: ∀x∈d,x.2.1.length<=1000∧x.2.2.1.length<=1000∧(∀n∈x.2.1,-1000<=n∧n<=1000)∧ ∀n∈x.2.2.1,-1000<=n∧n<=1000): ∀k i:Nat,i+k=d.length-> ∀o:List TLit,o.length=i->zhO M s by' o d d.length i=some (.inl (s,o++(d.drop i).map (shl by'),())):=by
 intro k
 induction k with
 | zero=>
  intro i hi o ho;obtain rfl:i=d.length:=by omega
  exact zr0 _ _ _ _ _ _ (by simp [zj1])
 | succ k ih=>
  intro i hi o ho;have h2:i<d.length:=by omega
  obtain ⟨d1,d2,d3,d4⟩:=hd _ (qi h2);apply zr0;simp only [zj1];rw [qb (by simpa using h2),zd h2];simp only [qa];rw [zCY _ by' h0 h1 (by omega) (fun n hn=>by have:=d3 n hn;omega)];simp only [qa];rw [zCY _ by' h0 h1 (by omega) (fun n hn=>by have:=d4 n hn;omega)];simp only [qa];rw [qb (by simp;omega),zb (by omega),zC,ih (i+1) (by omega) _ (by simp [ho]),qj h2,qK,qE];rfl
theorem zEX (d:List TLit) (s:TSign) (by':Int) (h0:0<=by') (h1:by'<=1000) (ts:List (List Int)) (hl:ts.length<=1000) (ht: ∀t∈ts,t.length<=1000∧ ∀n∈t,-1000<=n∧n<=1000): ∀k i:Nat,i+k=ts.length->
  zdw M d s by' ((ts.take i).map (fun t=>(some (true,t.map (shn by')):Option (Bool×List Int)))++(ts.drop i).map (fun t=>some (false,t))) ts.length i=some (.inl (d,s,ts.map (fun t=>some (true,t.map (shn by'))),())):=by
 intro k
 induction k with
 | zero=>
  intro i hi;obtain rfl:i=ts.length:=by omega
  apply zpD
  simp [zhn]
 | succ k ih=>
  intro i hi;have h2:i<ts.length:=by omega
  obtain ⟨t1,t2⟩:=ht _ (qi h2);have hlen:((ts.take i).map (fun t=>(some (true,t.map (shn by')):Option (Bool×List Int)))++(ts.drop i).map (fun t=>some (false,t))).length=ts.length:=by simp;omega
  have hget:((ts.take i).map (fun t=>(some (true,t.map (shn by')):Option (Bool×List Int)))++(ts.drop i).map (fun t=>some (false,t)))[i]?=some (some (false,ts[i])):=by
   rw [List.getElem?_append_right (by simp;omega)];simp [Nat.min_eq_left (Nat.le_of_lt h2),h2]
  have hsee:seeO ((ts.take i).map (fun t=>(some (true,t.map (shn by')):Option (Bool×List Int)))++(ts.drop i).map (fun t=>some (false,t))) i=some ts[i]:=by
   unfold seeO;rw [hget]
  have hnext:(ts.take (i+1)).map (fun t=>(some (true,t.map (shn by')):Option (Bool×List Int)))++(ts.drop (i+1)).map (fun t=>some (false,t))=((ts.take i).map (fun t=>(some (true,t.map (shn by')):Option (Bool×List Int)))++(ts.drop i).map (fun t=>some (false,t))).set i (some (true,ts[i].map (shn by'))):=by
   rw [List.take_succ_eq_append_getElem h2,List.map_append,List.set_append_right _ _ (by simp;omega)];have e:i-((ts.take i).map (fun t=>(some (true,t.map (shn by')):Option (Bool×List Int)))).length=0:=by simp;omega
   rw [e,qj h2];simp only [qK,List.map_nil,List.set_cons_zero,qE,qZ,qC]
  have ih':=ih (i+1) (by omega);rw [hnext] at ih';apply zpD;simp only [zhn];rw [qb (by simpa using h2),qb (by rw [hlen];omega),qo,hsee];simp only [qa];rw [zLx _ by' h0 h1 (by omega) (fun n hn=>by have:=t2 n hn;omega)];simp only [qa];rw [qb (by rw [hlen];omega),hget];simp only [qa];rw [zb (by omega),zC];exact ih'
theorem zzd (f:List Int->List Int) (ts:List (List Int)):allOw (ts.map fun t=>(some (true,f t):Option (Bool×List Int)))=true:=by
 induction ts with
 | nil=>rfl
 | cons t r ih=>simpa [allOw] using ih
theorem zxB (f:List Int->List Int) (ts:List (List Int)):forceL (ts.map fun t=>(some (true,f t):Option (Bool×List Int)))=ts.map f:=by
 simp [forceL,List.map_map,Function.comp_def]
theorem zzB (f:List Int->List Int) (d:List TLit):wtZ d ((tms d).map f)=d.map fun x=>(x.1,f x.2.1,f x.2.2.1,()):=by
 induction d with
 | nil=>rfl
 | cons x r ih=>
  have:tms (x::r)= [x.2.1,x.2.2.1]++tms r:=rfl;rw [this];simp only [qZ,qC,qK,wtZ,ih]
theorem zLq (s:List Int) (by':Int) (d:List TLit):((tms d).map fun t=>t.map (shn by')).all (isT s)=(d.map (shl by')).all (litOK s):=by
 induction d with
 | nil=>rfl
 | cons x r ih=>
  have:tms (x::r)= [x.2.1,x.2.2.1]++tms r:=rfl;rw [this];simp only [qZ,qC,qK,qR,ih,shl,litOK,Bool.and_assoc]
theorem zFl {a:List Int} (hg:gS a=true) {c:List TLit} (h:clOK a c=true): ∀x∈c,x.2.1.length<=1000∧x.2.2.1.length<=1000∧(∀n∈x.2.1,-1000<=n∧n<=1000)∧ ∀n∈x.2.2.1,-1000<=n∧n<=1000:=by
 have hal:a.length<=10:=by
  simp only [gS,qq,qt] at hg;omega
 simp only [clOK,qq,qt] at h;intro x hx;have:=(List.all_eq_true.1 h.2) x hx;simp only [litOK,qq] at this;obtain ⟨l1,l2⟩:=zqM this.1;obtain ⟨r1,r2⟩:=zqM this.2;exact ⟨by omega,by omega,fun n hn=>by have:=l2 n hn;omega,fun n hn=>by have:=r2 n hn;omega⟩
def apartC (c d:List TLit):List TLit:=d.map (shl (far (upTo (inV (tms c)))))
theorem zEy (s:TSign) (hg:gS s.1=true) (c d:List TLit) (hc:clOK s.1 c=true) (hd:clOK s.1 d=true):zlr M s c d=some (if (apartC c d).all (litOK s.1)=true then ((apartC c d,true,()),()) else (([],false,()),())):=by
 obtain ⟨c1,c2⟩:=zsE hc;obtain ⟨d1,_⟩:=zsE hd;have d2:=zFl hg hd
 have hv:=zFa (tms c) (by rw [zkj];omega) (by
  intro t ht;obtain ⟨x,hx,h⟩:=zc3.1 ht;have:=c2 x hx;rcases h with rfl | rfl
  ·have:=this.1;omega
  ·have:=this.2.1;omega)
 have hf:=zCK (L:=upTo (inV (tms c))) (fun v hv=>⟨(zjz.1 hv).1,(zjz.1 hv).2.1⟩);have hlen:=zxh (inV (tms c))
 have hloop:=zEX d s (far (upTo (inV (tms c)))) hf.1 (by omega) (tms d) (by rw [zkj];omega) (by
  intro t ht;obtain ⟨x,hx,h⟩:=zc3.1 ht;obtain ⟨e1,e2,e3,e4⟩:=d2 x hx;rcases h with rfl | rfl
  ·exact ⟨e1,e3⟩
  ·exact ⟨e2,e4⟩) (tms d).length 0 (by omega)
 rw [e0x] at hloop;simp only [List.take_zero,List.map_nil,qC,qk] at hloop;apply zzS;simp only [zpa,zoh c (by omega),qa,hv,zC]
 have rest: ∀b:Int,b=far (upTo (inV (tms c)))->((zbO M d).bind fun r5=>((zdw M d s b (List.map (fun x=>(some (false,x):Option (Bool×List Int))) r5.1.1) (List.length r5.1.1:Int) (0:Int)).bind (Sum.elim (fun y6=>(if allOw y6.2.2.1=true then ((zf8 M y6.2.1 (forceL y6.2.2.1)).bind fun r8=>(if (!r8.1.1)=true then (some (([],false,()),())) else ((zdG M y6.1 (forceL y6.2.2.1)).bind fun r9=>(some ((r9.1.1,true,()),()))))) else none)) (fun r7=>(some r7)))):Option ((List TLit×Bool×Unit)×Unit))=some (if (apartC c d).all (litOK s.1)=true then ((apartC c d,true,()),()) else (([],false,()),())):=by
  intro b hb;subst hb;rw [zoh d (by omega)];simp only [qa,hloop,qd];rw [qb (zzd _ _),zxB,zGz s hg _ (by simp only [qV,zkj];omega)];simp only [qa,zLq];show _=some (if ((d.map (shl (far (upTo (inV (tms c)))))).all (litOK s.1))=true then _ else _)
  cases hh:(d.map (shl (far (upTo (inV (tms c)))))).all (litOK s.1) with
  | false=>rfl
  | true=>
   simp only [qm,qg,qe,qf];rw [zsS d _ (by omega) (by simp only [qV,zkj];omega),zzB];rfl
 by_cases h0:0<(upTo (inV (tms c))).length
 ·obtain ⟨v,e1,e2,hv⟩:=zCh h0;have hb:=zjz.1 hv;rw [qb (by simp;omega),w64 (by omega) (by omega),qb (by omega),show ((upTo (inV (tms c))).length:Int)-1=(((upTo (inV (tms c))).length-1:Nat):Int) by omega,qo,e1];simp only [qa,qd];exact rest _ (by rw [w64 (x:=v+1) (by omega) (by omega),e2])
 ·rw [qc (by rw [qt];omega)];simp only [qa,qd];refine rest 0 ?_;have:upTo (inV (tms c))= []:=wd.1 (by omega);rw [this];rfl
theorem zEn (s:TSign) (hg:gS s.1=true) (c d:List TLit) (hc:clOK s.1 c=true) (hd:clOK s.1 d=true):zoB M s c d=some (if (apartC c d).all (litOK s.1)=true then ((apartC c d,true,()),()) else (([],false,()),())):=by
 obtain ⟨c1,c2⟩:=zsE hc;obtain ⟨d1,_⟩:=zsE hd;have d2:=zFl hg hd;have hf:=zCK (L:=upTo (inV (tms c))) (fun v hv=>⟨(zjz.1 hv).1,(zjz.1 hv).2.1⟩);have hloop:=zCa s (far (upTo (inV (tms c)))) hf.1 (by omega) d (by omega) d2 d.length 0 (by omega) [] rfl;rw [e0x] at hloop;simp only [qC,qk] at hloop
 have hsm: ∀x∈d.map (shl (far (upTo (inV (tms c))))),smL x:=by
  intro x hx;obtain ⟨y,hy,rfl⟩:=qQ.1 hx;obtain ⟨e1,e2,_,_⟩:=d2 y hy;exact ⟨by simp [shl];omega,by simp [shl];omega⟩
 apply zCq;simp only [zsL,zHE c (by omega) c2,qa,zC,hloop,qd]
 have hm:zp1 M s (d.map (shl (far (upTo (inV (tms c))))))=some (if (apartC c d).all (litOK s.1)=true then ((apartC c d,true,()),()) else (([],false,()),())):=by
  apply zDD;simp only [zua,zC,zeV s hg _ (by simp;omega) hsm,qa]
  have:clOK s.1 (d.map (shl (far (upTo (inV (tms c))))))=(apartC c d).all (litOK s.1):=by
   simp only [clOK,qV,qp d1,Bool.true_and];rfl
  rw [this];cases (apartC c d).all (litOK s.1)<;>rfl
 rw [hm];cases (apartC c d).all (litOK s.1)<;>rfl
def apC (σ:Int->List Int) (c:List TLit):List TLit:=c.map fun x=>(x.1,apS σ x.2.1,apS σ x.2.2.1,())
theorem zCH (σ:Int->List Int) (hb: ∀v,(σ v).length<=100000) (c:List TLit) (hl:c.length<=1000) (hc: ∀x∈c,x.2.1.length<=100∧x.2.2.1.length<=100∧(∀n∈x.2.1,-12<=n)∧ ∀n∈x.2.2.1,-12<=n): ∀k i:Nat,i+k=c.length-> ∀o:List TLit,o.length=i->ziR M (tabS σ) o c c.length i=some (.inl (o++apC σ (c.drop i),())):=by
 intro k
 induction k with
 | zero=>
  intro i hi o ho;obtain rfl:i=c.length:=by omega
  apply ztC
  simp [zkD,apC]
 | succ k ih=>
  intro i hi o ho;have h1:i<c.length:=by omega
  obtain ⟨c1,c2,c3,c4⟩:=hc _ (qi h1);apply ztC;simp only [zkD];rw [qb (by simpa using h1),zd h1];simp only [qa,zfZ _ _ (zeJ σ) hb _ c1 c3,zfZ _ _ (zeJ σ) hb _ c2 c4];rw [qb (by simp;omega),zb (by omega),ih (i+1) (by omega) _ (by simp [ho]),qj h1];simp only [apC,qK,qE,qZ,qC]
theorem zs9 (σ:Int->List Int) (hb: ∀v,(σ v).length<=100000) (c:List TLit) (hl:c.length<=1000) (hc: ∀x∈c,x.2.1.length<=100∧x.2.2.1.length<=100∧(∀n∈x.2.1,-12<=n)∧ ∀n∈x.2.2.1,-12<=n):zfp M (tabS σ) c=some ((apC σ c,()),()):=by
 apply zCO;have:=zCH σ hb c hl hc c.length 0 (by omega) [] rfl;rw [e0x,qk,qC] at this;simp only [zsB,this,qa,qd]
def fitT (σ:Int->List Int) (ts:List (List Int)):Bool:=ts.all fun t=>decide ((apS σ t).length<=40)
theorem zDu (σ:Int->List Int) (hb: ∀v,(σ v).length<=100000) (d:List TLit) (ts:List (List Int)) (hl:ts.length<=1000) (ht: ∀t∈ts,t.length<=100∧ ∀n∈t,-12<=n): ∀k i:Nat,i+k=ts.length->
  zfk M (tabS σ) d ((ts.take i).map (fun t=>(some (true,apS σ t):Option (Bool×List Int)))++(ts.drop i).map (fun t=>some (false,t))) ts.length i=some (if fitT σ (ts.drop i)=true then .inl (d,ts.map (fun t=>some (true,apS σ t)),()) else .inr (([],false,()),())):=by
 intro k
 induction k with
 | zero=>
  intro i hi;obtain rfl:i=ts.length:=by omega
  apply zpH
  simp [zhv,fitT]
 | succ k ih=>
  intro i hi;have h2:i<ts.length:=by omega
  obtain ⟨t1,t2⟩:=ht _ (qi h2);have hlen:((ts.take i).map (fun t=>(some (true,apS σ t):Option (Bool×List Int)))++(ts.drop i).map (fun t=>some (false,t))).length=ts.length:=by simp;omega
  have hget:((ts.take i).map (fun t=>(some (true,apS σ t):Option (Bool×List Int)))++(ts.drop i).map (fun t=>some (false,t)))[i]?=some (some (false,ts[i])):=by
   rw [List.getElem?_append_right (by simp;omega)];simp [Nat.min_eq_left (Nat.le_of_lt h2),h2]
  have hsee:seeO ((ts.take i).map (fun t=>(some (true,apS σ t):Option (Bool×List Int)))++(ts.drop i).map (fun t=>some (false,t))) i=some ts[i]:=by
   unfold seeO;rw [hget]
  have hnext:(ts.take (i+1)).map (fun t=>(some (true,apS σ t):Option (Bool×List Int)))++(ts.drop (i+1)).map (fun t=>some (false,t))=((ts.take i).map (fun t=>(some (true,apS σ t):Option (Bool×List Int)))++(ts.drop i).map (fun t=>some (false,t))).set i (some (true,apS σ ts[i])):=by
   rw [List.take_succ_eq_append_getElem h2,List.map_append,List.set_append_right _ _ (by simp;omega)];have e:i-((ts.take i).map (fun t=>(some (true,apS σ t):Option (Bool×List Int)))).length=0:=by simp;omega
   rw [e,qj h2];simp only [qK,List.map_nil,List.set_cons_zero,qE,qZ,qC]
  have ih':=ih (i+1) (by omega);rw [hnext] at ih'
  have hf:fitT σ (ts.drop i)=(decide ((apS σ ts[i]).length<=40)&&fitT σ (ts.drop (i+1))):=by
   rw [qj h2,fitT,qR,fitT]
  have ha:=zsI _ _ (zeJ σ) hb ts[i] t1 t2;apply zpH;simp only [zhv];rw [qb (by simpa using h2),qb (by rw [hlen];omega),qo,hsee];simp only [qa,ha];rw [qb (by rw [hlen];omega),hget];simp only [qa];rw [hf];by_cases h:(apS σ ts[i]).length<=40
  ·rw [qb h,qp h,Bool.true_and];simp only [qm,qg,qe];rw [zb (by omega)];exact ih'
  ·rw [qc h,qA h,Bool.false_and];rfl
theorem zpS (σ:Int->List Int) (hb: ∀v,(σ v).length<=100000) (c:List TLit) (hl:c.length<=100) (hc: ∀x∈c,x.2.1.length<=100∧x.2.2.1.length<=100∧(∀n∈x.2.1,-12<=n)∧ ∀n∈x.2.2.1,-12<=n):zdN M (tabS σ) c=some (if fitT σ (tms c)=true then ((apC σ c,true,()),()) else (([],false,()),())):=by
 have hloop:=zDu σ hb c (tms c) (by rw [zkj];omega) (by
  intro t ht;obtain ⟨x,hx,h⟩:=zc3.1 ht;obtain ⟨e1,e2,e3,e4⟩:=hc x hx;rcases h with rfl | rfl
  ·exact ⟨e1,e3⟩
  ·exact ⟨e2,e4⟩) (tms c).length 0 (by omega)
 rw [e0x] at hloop;simp only [List.take_zero,List.map_nil,qC,qk] at hloop;apply zy6;simp only [zoj,zoh c (by omega),qa,hloop]
 cases fitT σ (tms c) with
 | false=>rfl
 | true=>
  simp only [qf,qd];rw [qb (zzd _ _),zxB,zsS c _ (by omega) (by simp only [qV,zkj];omega),zzB];rfl
def sameL (x y:TLit):Bool:=x.1==y.1&&((decide (x.2.1=y.2.1)&&decide (x.2.2.1=y.2.2.1)) || (decide (x.2.1=y.2.2.1)&&decide (x.2.2.1=y.2.1)))
def sameT (x y:TLit):Bool:=(decide (x.2.1=y.2.1)&&decide (x.2.2.1=y.2.2.1)) || (decide (x.2.1=y.2.2.1)&&decide (x.2.2.1=y.2.1))
theorem zsT (x y:TLit) (hx:smL x):zjv M x y=some ((sameT x y,()),())∧zhE M x y=some ((sameT x y,()),()):=by
 have h1:=hx.1;have h2:=hx.2;refine ⟨zAw _ _ ?_,zyW _ _ ?_⟩
 ·simp only [zql,zna x.2.1 y.2.1 (by omega),zna x.2.2.1 y.2.2.1 (by omega),zna x.2.1 y.2.2.1 (by omega),zna x.2.2.1 y.2.1 (by omega),qa,sameT];cases decide (x.2.1=y.2.1)<;>cases decide (x.2.2.1=y.2.2.1)<;>cases decide (x.2.1=y.2.2.1)<;>rfl
 ·simp only [zoa,zlU x.2.1 y.2.1 (by omega),zlU x.2.2.1 y.2.2.1 (by omega),zlU x.2.1 y.2.2.1 (by omega),zlU x.2.2.1 y.2.1 (by omega),qa,sameT];cases decide (x.2.1=y.2.1)<;>cases decide (x.2.2.1=y.2.2.1)<;>cases decide (x.2.1=y.2.2.1)<;>rfl
theorem zK2 (m l:TLit) (hl:smL l):zp4 M m l=some ((sameL l m,()),()):=by
 apply zDt;simp only [ztT,zg,(zsT l m hl).1,qa];have:sameL l m=(l.1==m.1&&sameT l m):=rfl;rw [this];cases l.1==m.1<;>rfl
theorem zKR (l:TLit) (hl:smL l) (a:List TLit) (ha:a.length<=1048576): ∀k i:Nat,i+k=a.length-> ∃r,zY M a (l,()) a.length i=some r∧(match r with | .inl _=>((a.drop i).any (sameL l))=false | .inr r=>0<=r.1.1∧((a.drop i).any (sameL l))=true):=by
 intro k
 induction k with
 | zero=>
  intro i hi;obtain rfl:i=a.length:=by omega
  refine ⟨.inl (),zbr _ _ _ _ (by simp [zV]),by simp⟩
 | succ k ih=>
  intro i hi;have h1:i<a.length:=by omega
  have hg:=zK2 a[i] l hl;obtain ⟨r,hr,hm⟩:=ih (i+1) (by omega);rw [qj h1,List.any_cons]
  cases hp:sameL l a[i] with
  | false=>
   refine ⟨r,zbr _ _ _ _ ?_,by simpa using hm⟩;simp only [zV];rw [qb (by simpa using h1),zd h1,zb (by omega)];simp only [qa,zg,hg,hp,qg,qe]
   exact hr
  | true=>
   refine ⟨.inr (((i:Int),()),()),zbr _ _ _ _ ?_,Int.natCast_nonneg i,by simp⟩;simp only [zV];rw [qb (by simpa using h1),zd h1];simp only [qa,zg,hg,hp,qf]
theorem zEO (l:TLit) (hl:smL l) (a:List TLit) (ha:a.length<=1048576):zX M a (l,())=some ((a.any (sameL l),()),()):=by
 apply zij;simp only [zbx];obtain ⟨r,hr,hm⟩:=zKR l hl a ha a.length 0 (by omega);rw [e0x] at hr;rw [qk] at hm
 cases r with
 | inl r=>
  rw [zdy a (l,()) (r:=((-1,()),())) (by simp only [zaU,hr,qa,qd])];simp only at hm
  rw [hm];rfl
 | inr r=>
  rw [zdy a (l,()) (r:=r) (by simp only [zaU,hr,qa,qF])];simp only at hm;simp [hm]
def td:List TLit->List TLit->List TLit
 | out,[]=>out
 | out,x::c=>if (x.1=false∧x.2.1=x.2.2.1)∨out.any (sameL x)=true then td out c else td (out++ [x]) c
theorem zFy (c:List TLit) (hl:c.length<=1000) (hc: ∀x∈c,smL x): ∀(k i:Nat) (o:List TLit),i+k=c.length->o.length<=i->zg3 M o c c.length i=some (.inl (td o (c.drop i),())):=by
 intro k
 induction k with
 | zero=>
  intro i o hi ho;obtain rfl:i=c.length:=by omega
  apply zv9
  simp [znw,td]
 | succ k ih=>
  intro i o hi ho;have h1:i<c.length:=by omega
  have hx:=hc _ (qi h1);have hx1:=hx.1;have hx2:=hx.2
  have hcp:zl5 M c[i]=some ((c[i],()),()):=by
   apply zB1;simp only [zsA];rw [qb (by omega),qb (by omega)]
  rw [qj h1]
  have skip:((c[i].1=false∧c[i].2.1=c[i].2.2.1)∨o.any (sameL c[i])=true)->zg3 M o c c.length ((i+1:Nat):Int)=some (.inl (td o (c[i]::c.drop (i+1)),())):=by
   intro h;rw [ih (i+1) o (by omega) (by omega),td,qb h]
  have take: ¬((c[i].1=false∧c[i].2.1=c[i].2.2.1)∨o.any (sameL c[i])=true)->zg3 M (o++ [c[i]]) c c.length ((i+1:Nat):Int)=some (.inl (td o (c[i]::c.drop (i+1)),())):=by
   intro h;rw [ih (i+1) _ (by omega) (by simp;omega),td,qc h]
  apply zv9;simp only [znw];rw [qb (by simpa using h1),zd h1];simp only [qa,zg,zna c[i].2.1 c[i].2.2.1 (by omega),zEO c[i] hx o (by omega),hcp]
  cases hp:c[i].1 with
  | true=>
   simp only [qm,qg,qe]
   cases ha:o.any (sameL c[i]) with
   | true=>
    simp only [qm,qg,qe,qa,qd];rw [zb (by omega)]
    exact skip (.inr ha)
   | false=>
    simp only [qO,qf,zg];rw [qb (by simp;omega)];simp only [qa,qd];rw [zb (by omega)]
    exact take (fun h=>by rcases h with h | h;exact absurd h.1 (by simp [hp]);exact absurd h (by simp [ha]))
  | false=>
   simp only [qO,qf];by_cases he:c[i].2.1=c[i].2.2.1
   ·simp only [qp he,qf,qa,qd];rw [zb (by omega)];exact skip (.inl ⟨hp,he⟩)
   ·simp only [qA he,qg,qe]
    cases ha:o.any (sameL c[i]) with
    | true=>
     simp only [qm,qg,qe,qa,qd];rw [zb (by omega)]
     exact skip (.inr ha)
    | false=>
     simp only [qO,qf,zg];rw [qb (by simp;omega)];simp only [qa,qd];rw [zb (by omega)];exact take (fun h=>by rcases h with h | h;exact he h.2;exact absurd h (by simp [ha]))
theorem zMj (c:List TLit) (hl:c.length<=1000) (hc: ∀x∈c,smL x):zsR M c=some ((td [] c,()),()):=by
 apply zFD;have:=zFy c hl hc c.length 0 [] (by omega) (by simp);rw [e0x,qk] at this;simp only [zwA,this,qa,qd]
theorem zMm (o:List TLit) (x:TLit) (c:List TLit) (N I:Int) (hx:smL x) (ho:o.length<=100000): ∀(k i:Nat) (b:Bool),i+k=o.length->zcc M o x b c N I o.length i=some (.inl (o,x,(b || (o.drop i).any (sameL x)),c,N,I,())):=by
 intro k
 induction k with
 | zero=>
  intro i b hi;obtain rfl:i=o.length:=by omega
  apply zqB;simp only [zhY,zg];rw [qc (by simp)]
  simp
 | succ k ih=>
  intro i b hi;have h1:i<o.length:=by omega
  apply zqB;simp only [zhY];rw [qb (by simpa using h1),qb (by omega),qo,qu h1,zb (by omega)];simp only [qa,zg,(zsT x o[i] hx).2,ih (i+1) _ (by omega)];rw [qj h1,List.any_cons];have:sameL x o[i]=(x.1==o[i].1&&sameT x o[i]):=rfl;rw [this]
  cases b with
  | true=>simp
  | false=>
   simp only [qg,qe,Bool.false_or];cases x.1==o[i].1<;>simp
theorem zDR (c:List TLit) (hl:c.length<=1000) (hc: ∀x∈c,smL x): ∀(k i:Nat) (o:List TLit),i+k=c.length->o.length<=i->ze8 M o c c.length i=some (.inl (td o (c.drop i),())):=by
 intro k
 induction k with
 | zero=>
  intro i o hi ho;obtain rfl:i=c.length:=by omega
  apply zuq
  simp [zlF,td]
 | succ k ih=>
  intro i o hi ho;have h1:i<c.length:=by omega
  have hx:=hc _ (qi h1);have hx1:=hx.1;have hx2:=hx.2;have hin:=zMm o c[i] c c.length i hx (by omega) o.length 0 false (by omega);rw [e0x,qk,Bool.false_or] at hin;rw [qj h1]
  have skip:((c[i].1=false∧c[i].2.1=c[i].2.2.1)∨o.any (sameL c[i])=true)->ze8 M o c c.length ((i+1:Nat):Int)=some (.inl (td o (c[i]::c.drop (i+1)),())):=by
   intro h;rw [ih (i+1) o (by omega) (by omega),td,qb h]
  have take: ¬((c[i].1=false∧c[i].2.1=c[i].2.2.1)∨o.any (sameL c[i])=true)->ze8 M (o++ [c[i]]) c c.length ((i+1:Nat):Int)=some (.inl (td o (c[i]::c.drop (i+1)),())):=by
   intro h;rw [ih (i+1) _ (by omega) (by simp;omega),td,qc h]
  apply zuq;simp only [zlF];rw [qb (by simpa using h1),zd h1];simp only [qa,zg,zlU c[i].2.1 c[i].2.2.1 (by omega),hin,qd]
  cases hp:c[i].1 with
  | true=>
   simp only [qm,qg,qe]
   cases ha:o.any (sameL c[i]) with
   | true=>
    simp only [qm,qg,qe,qa,qd];rw [zb (by omega)]
    exact skip (.inr ha)
   | false=>
    simp only [qO,qf,zg];rw [qb (by simp;omega)];simp only [qa,qd];rw [zb (by omega)];have:=take (fun h=>by rcases h with h | h;exact absurd h.1 (by simp [hp]);exact absurd h (by simp [ha]))
    exact this
  | false=>
   simp only [qO,qf];by_cases he:c[i].2.1=c[i].2.2.1
   ·simp only [qp he,qf,qa,qd];rw [zb (by omega)];exact skip (.inl ⟨hp,he⟩)
   ·simp only [qA he,qg,qe]
    cases ha:o.any (sameL c[i]) with
    | true=>
     simp only [qm,qg,qe,qa,qd];rw [zb (by omega)]
     exact skip (.inr ha)
    | false=>
     simp only [qO,qf,zg];rw [qb (by simp;omega)];simp only [qa,qd];rw [zb (by omega)];have:=take (fun h=>by rcases h with h | h;exact he h.2;exact absurd h (by simp [ha]));exact this
theorem zxZ (c:List TLit) (hl:c.length<=1000) (hc: ∀x∈c,smL x): ∀k i:Nat,i+k=c.length-> ∀o:List TLit,o.length=i->zkz M o c c.length i=some (.inl (o++c.drop i,())):=by
 intro k
 induction k with
 | zero=>
  intro i hi o ho;obtain rfl:i=c.length:=by omega
  apply zvg
  simp [zmF]
 | succ k ih=>
  intro i hi o ho;have h1:i<c.length:=by omega
  have h2:=hc _ (qi h1);apply zvg;simp only [zmF];rw [qb (by simpa using h1),zd h1,zb (by omega)];simp only [qa,ziU c[i].2.1 h2.1,ziU c[i].2.2.1 h2.2];rw [qb (by simp;omega),zg,ih (i+1) (by omega) _ (by simp [ho]),qj h1,qE];rfl
theorem zwI: ∀(c o:List TLit),∀x∈td o c,x∈o∨x∈c
 | [],o,x,h=> .inl h
 | y::c,o,x,h=>by
  simp only [td] at h;split at h
  ·rcases zwI c o x h with q | q
   ·exact .inl q
   ·exact .inr (qn _ q)
  ·rcases zwI c _ x h with q | q
   ·rcases qr.1 q with q | q
    ·exact .inl q
    ·exact .inr (by rw [qM.1 q];exact qv ..)
   ·exact .inr (qn _ q)
theorem zzf: ∀(c o:List TLit),(td o c).length<=o.length+c.length
 | [],o=>by simp [td]
 | y::c,o=>by
  simp only [td];split
  ·have:=zzf c o;simp;omega
  ·have:=zzf c (o++ [y]);simp at this ⊢; omega
theorem zJq (c:List TLit) (hl:c.length<=1000) (hc: ∀x∈c,smL x):zpY M c=some ((td [] c,()),()):=by
 apply zDE;have:=zDR c hl hc c.length 0 [] (by omega) (by simp);rw [e0x,qk] at this;have h2:=zzf c [];have ow:=zxZ (td [] c) (by simp at h2;omega) (fun x hx=>by rcases zwI c [] x hx with q | q;cases q;exact hc x q) (td [] c).length 0 (by omega) [] rfl;rw [e0x,qk,qC] at ow
 have ow':zl2 M (td [] c)=some ((td [] c,()),()):=by
  apply zyr;simp only [zrM,ow,qa,qd]
 simp only [zt1,this,qa,qd,ow']
theorem zFv (v:Int) (a:List Int) (ha:a.length<=100000): ∀k i:Nat,i+k=a.length->zhT M v a a.length i=some (if v∈a.drop i then .inr ((true,()),()) else .inl ()):=by
 intro k
 induction k with
 | zero=>
  intro i hi;obtain rfl:i=a.length:=by omega
  exact zmt _ _ _ _ (by simp [zg0])
 | succ k ih=>
  intro i hi;have h1:i<a.length:=by omega
  rw [qj h1];apply zmt;simp only [zg0];rw [qb (by simpa using h1),zd h1,zb (by omega)];simp only [qa];by_cases h:a[i]=v
  ·rw [qb (by simpa using h),qb (by rw [h];exact qv ..)]
  ·rw [qc (by simpa using h),ih (i+1) (by omega)];by_cases h2:v∈a.drop (i+1)
   ·rw [qb h2,qb (qn _ h2)]
   ·rw [qc h2,qc (fun h3=>by rcases qz.1 h3 with e | e;exact h e.symm;exact h2 e)]
theorem zMp (a:List Int) (v:Int) (ha:a.length<=100000):zfY M a v=some ((decide (v∈a),()),()):=by
 apply zzp;have:=zFv v a ha a.length 0 (by omega);rw [e0x,qk] at this;simp only [zrf,this,qa];by_cases h:v∈a
 ·rw [qb h,qp h];rfl
 ·rw [qc h,qA h];rfl
def mkM:Nat->List Int->List (Int×Int)
 | _,[]=> []
 | i,n::r=>(n,-1-(i:Int))::mkM (i+1) r
theorem zF6: ∀(m:List Int) (i:Nat),(mkM i m).length=m.length
 | [],_=>rfl
 | n::r,i=>by simp [mkM,zF6 r]
theorem zEx (n:Int): ∀(m:List Int) (i:Nat),mhas (mkM i m) n=decide (n∈m)
 | [],i=>by simp [mkM,mhas]
 | a::r,i=>by
  simp only [mkM,mhas,zEx n r];by_cases h:a=n
  ·simp [h]
  ·rw [qc h];have: ¬n=a:=fun e=>h e.symm
   simp [this]
theorem zE7 (n:Int): ∀(m:List Int) (i:Nat),n∉m->mput (mkM i m) n (-1-((i+m.length:Nat):Int))=mkM i (m++ [n])
 | [],i,_=>by simp [mkM,mput]
 | a::r,i,h=>by
  have h1: ¬a=n:=fun e=>h (by simp [e])
  simp only [mkM,mput,qc h1,qZ];rw [<-zE7 n r (i+1) (fun q=>h (qn _ q))];congr 2;simp;omega
def addN (m:List Int) (n:Int):List Int:=if n<0∧n∉m then m++ [n] else m
theorem zCl (m:List Int) {n:Int} (hn:n<0):nmb (mkM 0 m) n=mkM 0 (addN m n):=by
 unfold nmb addN;rw [zEx,zF6];by_cases h:n∈m
 ·rw [qb (by simpa using h),qc (fun q=>q.2 h)]
 ·rw [qc (by simpa using h),qb ⟨hn,h⟩];have:=zE7 n m 0 h;rw [qJ] at this;exact this
theorem zJh {m:List Int} (h: ∀x∈m,x<0) (n:Int): ∀x∈addN m n,x<0:=by
 intro x hx;unfold addN at hx;split at hx
 ·rename_i q;rcases qr.1 hx with hx | hx
  ·exact h x hx
  ·rw [qM.1 hx];exact q.1
 ·exact h x hx
theorem zJE (m:List Int) (n:Int):(addN m n).length<=m.length+1:=by
 unfold addN;split<;>simp
theorem zAP (m:List Int) {n:Int} (hn:n<0):n∈addN m n:=by
 unfold addN;by_cases h:n∈m
 ·rw [qc (fun q=>q.2 h)];exact h
 ·rw [qb ⟨hn,h⟩];simp
theorem zI8 (met:List Int) (outs:List (List Int)) (x:List Int) (n:Int) (l:List (List Int)) (N I:Int) (t:List Int) (T j:Int) (hm:met.length<=100000): ∀k i:Nat,i+k=met.length->zbG M met outs x n l N I t T j met.length i=some (.inl (met,outs,x,(if n∈met.drop i then mget (mkM i (met.drop i)) n 0 else n),l,N,I,t,T,j,())):=by
 intro k
 induction k with
 | zero=>
  intro i hi;obtain rfl:i=met.length:=by omega
  apply zmP;simp only [zeW]
  rw [qc (by simp),qG,qc (by simp)]
 | succ k ih=>
  intro i hi;have h1:i<met.length:=by omega
  apply zmP;simp only [zeW];rw [qb (by simpa using h1),qb (by omega),qo,qu h1];simp only [qa];rw [qj h1];by_cases h:met[i]=n
  ·rw [qb (by simpa using h),qb (by rw [h];exact qv ..),mkM,mget,qb h,w64 (by omega) (by omega)]
  ·rw [qc (by simpa using h),zb (by omega),ih (i+1) (by omega),mkM,mget,qc h];by_cases h2:n∈met.drop (i+1)
   ·rw [qb h2,qb (qn _ h2)]
   ·rw [qc h2,qc (fun q=>by rcases qz.1 q with e | e;exact h e.symm;exact h2 e)]
theorem zI6 (outs:List (List Int)) (l:List (List Int)) (N I:Int) (t:List Int) (ht:t.length<=1000): ∀(k j:Nat) (met x:List Int),j+k=t.length->met.length<=40000+j->x.length<=40000+j->(∀y∈met,y<0)-> ∃met':List Int,zc4 M met outs x l N I t t.length j=some (.inl (met',outs,x++(rnm (mkM 0 met) (t.drop j)).1,l,N,I,()))∧(rnm (mkM 0 met) (t.drop j)).2=mkM 0 met'∧(∀y∈met',y<0)∧met'.length<=met.length+k:=by
 intro k
 induction k with
 | zero=>
  intro j met x hj hm hx hneg;obtain rfl:j=t.length:=by omega
  refine ⟨met,zkg _ _ _ _ _ _ _ _ _ ?_,by simp [rnm],hneg,by omega⟩;simp only [zd7];rw [qc (by simp),qG]
  simp [rnm]
 | succ k ih=>
  intro j met x hj hm hx hneg;have h1:j<t.length:=by omega
  rw [qj h1]
  have name: ∀met2:List Int,met2.length<=40000+(j+1)-> ∀T:Int,zbG M met2 outs x t[j] l N I t T j met2.length 0=some (.inl (met2,outs,x,(if t[j]∈met2 then mget (mkM 0 met2) t[j] 0 else t[j]),l,N,I,t,T,j,())):=by
   intro met2 h T;have:=zI8 met2 outs x t[j] l N I t T j (by omega) met2.length 0 (by omega);rw [e0x,qk] at this;exact this
  by_cases hn:t[j]<0
  ·have hl:=zJE met t[j];obtain ⟨met',e1,e2,e3,e4⟩:=ih (j+1) (addN met t[j]) (x++ [mget (mkM 0 (addN met t[j])) t[j] 0]) (by omega) (by omega) (by simp;omega) (zJh hneg _)
   have hr:rnm (mkM 0 met) (t[j]::t.drop (j+1))=(mget (mkM 0 (addN met t[j])) t[j] 0::(rnm (mkM 0 (addN met t[j])) (t.drop (j+1))).1,(rnm (mkM 0 (addN met t[j])) (t.drop (j+1))).2):=by
    simp only [rnm];rw [qc (by omega),zCl met hn]
   refine ⟨met',zkg _ _ _ _ _ _ _ _ _ ?_,by rw [hr];exact e2,e3,by omega⟩;simp only [zd7];rw [qb (by simpa using h1),zd h1];simp only [qa];rw [qb (by simpa using hn)];have hh:=zMp met t[j] (by omega)
   have fin: ∀met2:List Int,met2=addN met t[j]->(zbG M met2 outs x t[j] l N I t (t.length:Int) j met2.length 0).bind (Sum.elim (fun y4=>if (y4.2.2.1.length+ [y4.2.2.2.1].length)*8<=140737488355328 then zc4 M y4.1 y4.2.1 (y4.2.2.1++ [y4.2.2.2.1]) y4.2.2.2.2.1 y4.2.2.2.2.2.1 y4.2.2.2.2.2.2.1 y4.2.2.2.2.2.2.2.1 y4.2.2.2.2.2.2.2.2.1 (IntKind.i64.wrap (y4.2.2.2.2.2.2.2.2.2.1+1)) else none) fun r5=>some (.inr r5))=some (.inl (met',outs,x++(rnm (mkM 0 met) (t[j]::t.drop (j+1))).1,l,N,I,())):=by
    intro met2 e;subst e;rw [name _ (by omega)];simp only [qa,qd];rw [qb (zAP met hn),qb (by simp only [qD,qT];omega),zb (by omega),e1,hr];simp
   rw [hh];simp only [qa];by_cases hmem:t[j]∈met
   ·rw [qc (by simp [hmem])];simp only [qa,qd];exact fin met (by unfold addN;rw [qc (fun q=>q.2 hmem)])
   ·rw [qb (by simp [hmem]),qb (by simp only [qD,qT];omega)];simp only [qa,qd];exact fin (met++ [t[j]]) (by unfold addN;rw [qb ⟨hn,hmem⟩])
  ·have hnm:t[j]∉met:=fun q=>hn (hneg _ q)
   obtain ⟨met',e1,e2,e3,e4⟩:=ih (j+1) met (x++ [t[j]]) (by omega) (by omega) (by simp;omega) hneg
   have hr:rnm (mkM 0 met) (t[j]::t.drop (j+1))=(t[j]::(rnm (mkM 0 met) (t.drop (j+1))).1,(rnm (mkM 0 met) (t.drop (j+1))).2):=by
    simp only [rnm];rw [qb (by omega)]
   refine ⟨met',zkg _ _ _ _ _ _ _ _ _ ?_,by rw [hr];exact e2,e3,by omega⟩;simp only [zd7];rw [qb (by simpa using h1),zd h1];simp only [qa];rw [qc (by simpa using hn)];simp only [qa,qd];rw [name met (by omega)];simp only [qa,qd];rw [qc hnm,qb (by simp only [qD,qT];omega),zb (by omega),e1,hr];simp
theorem zJO (l:List (List Int)) (hl:l.length<=40) (hx: ∀t∈l,t.length<=1000): ∀(k i:Nat) (met:List Int) (outs:List (List Int)),i+k=l.length->met.length<=1000*i->outs.length=i->(∀y∈met,y<0)->zgK M met outs l l.length i=some (.inl (outs++rnL (mkM 0 met) (l.drop i),())):=by
 intro k
 induction k with
 | zero=>
  intro i met outs hi hm ho hneg;obtain rfl:i=l.length:=by omega
  apply zrK;simp only [ziX];rw [qc (by simp),qG]
  simp [rnL]
 | succ k ih=>
  intro i met outs hi hm ho hneg;have h1:i<l.length:=by omega
  have ht:=hx _ (qi h1);obtain ⟨met',e1,e2,e3,e4⟩:=zI6 outs l l.length i l[i] ht l[i].length 0 met [] (by omega) (by omega) (by simp) hneg;rw [e0x] at e1;rw [qk] at e1 e2;apply zrK;simp only [ziX];rw [qb (by simpa using h1),zd h1];simp only [qa,e1,qd,qC];rw [qb (by simp only [qD,qT];omega),zb (by omega),ih (i+1) met' _ (by omega) (by omega) (by simp [ho]) e3,qj h1,rnL,e2,qE];rfl
theorem zGP (l:List (List Int)) (hl:l.length<=40) (hx: ∀t∈l,t.length<=1000):znr M l=some ((rnL [] l,()),()):=by
 apply zBf;have:=zJO l hl hx l.length 0 [] [] (by omega) (by simp) rfl (by simp);rw [e0x,qk,qC] at this;simp only [zrE,this,qa,qd];rfl
theorem zB3 (c:List TLit) (hc:c.length<=1048576): ∀k i:Nat,i+k=c.length-> ∀o:List (List Int),o.length<=2*i->ziv M o c c.length i=some (.inl (o++tms (c.drop i),())):=by
 intro k
 induction k with
 | zero=>
  intro i hi o ho;obtain rfl:i=c.length:=by omega
  exact ztk _ _ _ _ (by simp [zkE,tms])
 | succ k ih=>
  intro i hi o ho;have h1:i<c.length:=by omega
  apply ztk;simp only [zkE];rw [qb (by simpa using h1),zd h1];simp only [qa];rw [qb (by simp;omega),zb (by omega),ih (i+1) (by omega) _ (by simp;omega),qj h1];have:tms (c[i]::c.drop (i+1))= [c[i].2.1,c[i].2.2.1]++tms (c.drop (i+1)):=rfl;rw [this,qE]
theorem zIl (c:List TLit) (hc:c.length<=1048576):zoD M c=some ((tms c,()),()):=by
 apply zCy;have:=zB3 c hc c.length 0 (by omega) [] (by simp);rw [e0x] at this;simp only [zsJ,this,qa,qd,qC,qk]
theorem zzD: ∀(l:List (List Int)) (m:List (Int×Int)),(rnL m l).length=l.length
 | [],_=>rfl
 | t::r,m=>by simp [rnL,zzD r]
theorem zBi (ts:List (List Int)) (c:List TLit) (hl:c.length<=1000) (ht:ts.length=2*c.length): ∀k i:Nat,i+k=c.length-> ∀o:List TLit,o.length=i->zgN M ts o c c.length i=some (.inl (o++wtZ (c.drop i) (ts.drop (2*i)),())):=by
 intro k
 induction k with
 | zero=>
  intro i hi o ho;obtain rfl:i=c.length:=by omega
  apply zrm;simp only [zi9];rw [qc (by simp),qG]
  simp [wtZ]
 | succ k ih=>
  intro i hi o ho;have h1:i<c.length:=by omega
  have h2:2*i<ts.length:=by omega
  have h3:2*i+1<ts.length:=by omega
  have e1:IntKind.i64.wrap ((2:Int)*(i:Int))=((2*i:Nat):Int):=by rw [w64 (by omega) (by omega)];omega
  have e2:IntKind.i64.wrap (((2*i:Nat):Int)+1)=((2*i+1:Nat):Int):=by rw [w64 (by omega) (by omega)];omega
  apply zrm;simp only [zi9];rw [qb (by simpa using h1),zd h1,e1,e2];simp only [qa];rw [qb (by omega),qo,qu h2];simp only [qa];rw [qb (by omega),qo,qu h3];simp only [qa];rw [qb (by simp;omega),zb (by omega),ih (i+1) (by omega) _ (by simp [ho]),qj h1,qj h2,qj h3];simp only [wtZ,qE,List.singleton_append];rw [show 2*(i+1)=2*i+1+1 by omega]
def rnC (c:List TLit):List TLit:=wtZ c (rnL [] (tms c))
theorem zyT (c:List TLit) (hl:c.length<=20) (hc: ∀x∈c,x.2.1.length<=1000∧x.2.2.1.length<=1000):zjU M c=some ((rnC c,()),())∧zie M c=some ((rnC c,()),()):=by
 have ht: ∀t∈tms c,t.length<=1000:=by
  intro t ht;obtain ⟨x,hx,h⟩:=zc3.1 ht;rcases h with rfl | rfl
  ·exact (hc x hx).1
  ·exact (hc x hx).2
 have hL:=zkj c;refine ⟨zx9 _ ?_,zBx _ ?_⟩
 ·simp only [znp,zoh c (by omega),zJ7 (tms c) (by omega) ht,qa];rw [zsS c _ (by omega) (by rw [zzD];omega)];rfl
 ·have:=zBi (rnL [] (tms c)) c (by omega) (by rw [zzD];omega) c.length 0 (by omega) [] rfl;rw [e0x] at this;simp only [Nat.mul_zero,qk,qC] at this;simp only [zrq,zIl c (by omega),zGP (tms c) (by omega) ht,qa,this,qd];rfl
def outC (c:List TLit):List TLit:=rnC (td [] c)
theorem zle (c:List TLit) (hl:c.length<=20) (hc: ∀x∈c,x.2.1.length<=1000∧x.2.2.1.length<=1000):zdT M c=some ((outC c,()),())∧zbE M c=some ((outC c,()),()):=by
 have hs: ∀x∈c,smL x:=fun x hx=>⟨by have:=(hc x hx).1;omega,by have:=(hc x hx).2;omega⟩
 have h2:=zzf c [];have hr:=zyT (td [] c) (by simp at h2;omega) (fun x hx=>by rcases zwI c [] x hx with q | q;cases q;exact hc x q);refine ⟨zAz _ ?_,zEg _ ?_⟩
 ·simp only [zqm,zMj c (by omega) hs,qa,hr.1];rfl
 ·simp only [zvE,zJq c (by omega) hs,qa,hr.2];rfl
theorem zy7 {left:List (List Int)} {j:Nat} (hj:j<left.length) (s:List Int):left.count s=(left.take j++left.drop (j+1)).count s+(if left[j]=s then 1 else 0):=by
 have e:left=left.take j++left[j]::left.drop (j+1):=by rw [List.getElem_cons_drop,wa]
 have h:=congrArg (List.count s) e;rw [h,List.count_append,List.count_append,List.count_cons];by_cases q:left[j]=s<;>simp [q]<;>omega
def smR (l:List (List Int)):Prop:=l.length<=100∧ ∀t∈l,smT t
theorem zKn (left o a:List (List Int)) (t:List Int) (N I:Int) (hl:smR left) (ht:smT t): ∀(k i:Nat) (at':Int),i+k=left.length-> ∃z:Int,zgj M left o t at' a N I left.length i=some (.inl (left,o,t,z,a,N,I,()))∧((z=at'∧ ∀s∈left.drop i,s≠t)∨ ∃j:Nat,∃h:j<left.length,z=j∧left[j]=t):=by
 intro k
 induction k with
 | zero=>
  intro i at' hi;obtain rfl:i=left.length:=by omega
  refine ⟨at',zl1 _ _ _ _ _ _ _ _ _ ?_,.inl ⟨rfl,by simp⟩⟩;simp only [zfz]
  rw [qc (by simp)]
 | succ k ih=>
  intro i at' hi;have h1:i<left.length:=by omega
  have h2:=(hl.2 _ (qi h1)).1;have h3:=ht.1;have h4:=hl.1;by_cases h:t=left[i]
  ·obtain ⟨z,hz,hd⟩:=ih (i+1) i (by omega);refine ⟨z,zl1 _ _ _ _ _ _ _ _ _ ?_,?_⟩
   ·simp only [zfz];rw [qb (by simpa using h1),qb (by omega),qo,qu h1];simp only [qa,zlU t left[i] (by omega),qp h,qf,qd];rw [zb (by omega)];exact hz
   ·rcases hd with ⟨rfl,_⟩ | h'
    ·exact .inr ⟨i,h1,rfl,h.symm⟩
    ·exact .inr h'
  ·obtain ⟨z,hz,hd⟩:=ih (i+1) at' (by omega);refine ⟨z,zl1 _ _ _ _ _ _ _ _ _ ?_,?_⟩
   ·simp only [zfz];rw [qb (by simpa using h1),qb (by omega),qo,qu h1];simp only [qa,zlU t left[i] (by omega),qA h,qg,qe,qd];rw [zb (by omega)];exact hz
   ·rcases hd with ⟨rfl,h'⟩ | h'
    ·refine .inl ⟨rfl,?_⟩;rw [qj h1];intro s hs;rcases qz.1 hs with rfl | hs
     ·exact fun e=>h e.symm
     ·exact h' s hs
    ·exact .inr h'
theorem smR.cut {left:List (List Int)} (h:smR left) (j:Nat):smR (left.take j++left.drop (j+1)):=by
 refine ⟨by have:=h.1;simp;omega,fun t ht=>h.2 t ?_⟩;rcases qr.1 ht with q | q
 ·exact List.mem_of_mem_take q
 ·exact List.mem_of_mem_drop q
theorem smR.tail {a:List (List Int)} (h:smR a) (i:Nat):smR (a.drop i):=⟨by have:=h.1;simp;omega,fun t ht=>h.2 t (List.mem_of_mem_drop ht)⟩
theorem zMe (a:List (List Int)) (ha:smR a): ∀(k i:Nat) (left o:List (List Int)),i+k=a.length->smR left->o.length<=i-> ∃x:List (List Int),ziQ M left o a a.length i=some (.inl (o++x,()))∧ ∀s,x.count s=(a.drop i).count s-left.count s:=by
 intro k
 induction k with
 | zero=>
  intro i left o hi hl ho;obtain rfl:i=a.length:=by omega
  refine ⟨[],znR _ _ _ _ _ ?_,by simp⟩;simp only [zhD]
  rw [qc (by simp),qP]
 | succ k ih=>
  intro i left o hi hl ho;have h1:i<a.length:=by omega
  have h4:=ha.1;have h5:=hl.1;obtain ⟨z,hz,hd⟩:=zKn left o a a[i] a.length i hl (ha.2 _ (qi h1)) left.length 0 (-1) (by omega);rw [e0x] at hz;rw [qk] at hd;by_cases hneg:z<0
  ·have hn: ∀s∈left,s≠a[i]:=by
    rcases hd with ⟨_,h⟩ | ⟨j,h,rfl,_⟩
    ·exact h
    ·omega
   obtain ⟨x,hx,hc⟩:=ih (i+1) left (o++ [a[i]]) (by omega) hl (by simp;omega);refine ⟨a[i]::x,znR _ _ _ _ _ ?_,fun s=>?_⟩
   ·simp only [zhD];rw [qb (by simpa using h1),zd h1];simp only [qa,hz,qd];rw [qb (by simpa using hneg),qb (by simp only [qD,qT];omega)];simp only [qa,qd];rw [zb (by omega),hx];simp
   ·rw [qj h1,List.count_cons,List.count_cons,hc s];by_cases e:a[i]=s
    ·subst e;rw [List.count_eq_zero_of_not_mem (fun h=>hn _ h rfl)];simp
    ·simp [e]
  ·obtain ⟨j,hj,rfl,hjt⟩: ∃j:Nat,∃h:j<left.length,z=j∧left[j]=a[i]:=by
    rcases hd with ⟨rfl,_⟩ | h
    ·omega
    ·exact h
   obtain ⟨x,hx,hc⟩:=ih (i+1) (left.take j++left.drop (j+1)) o (by omega) (hl.cut j) (by omega);refine ⟨x,znR _ _ _ _ _ ?_,fun s=>?_⟩
   ·simp only [zhD];rw [qb (by simpa using h1),zd h1];simp only [qa,hz,qd];rw [qc (by simp),qb (by omega),zb (by omega)];simp only [qo,Int.toNat_zero,qk,qC,List.take_length,qT,qJ];rw [qb (by simp;omega),qb (by omega),qb (by simp;omega)];simp only [qa,qd];rw [zb (by omega),hx]
   ·have hcut:=zy7 hj s;rw [hjt] at hcut;rw [qj h1,List.count_cons,hc s,hcut];by_cases e:a[i]=s<;>simp [e]<;>omega
theorem zER (a b:List (List Int)) (ha:smR a) (hb:smR b): ∃x:List (List Int),zm1 M a b=some ((x,()),())∧ ∀s,x.count s=a.count s-b.count s:=by
 obtain ⟨x,hx,hc⟩:=zMe a ha a.length 0 b [] (by omega) hb (by simp);rw [e0x] at hx;refine ⟨x,zDW _ _ ?_,fun s=>by rw [hc s,qk]⟩;simp only [zuc];rw [qb (by have:=hb.1;simp;omega)];simp only [qC] at hx ⊢;rw [hx];rfl
theorem zKq (u t:List Int) (ht:smT t) (hu:smT u):zhV M u t=some ((decide (t=u),()),()):=by
 apply zwX;simp only [zlT,zna t u (by have:=ht.1;omega),qa]
theorem zMa (t:List Int) (ht:smT t) (y:List (List Int)) (hy:smR y): ∀k i:Nat,i+k=y.length->(zi M y (t,()) y.length i=some (.inl ())∧ ∀s∈y.drop i,s≠t)∨ ∃j:Nat,∃h:j<y.length,zi M y (t,()) y.length i=some (.inr (((j:Int),()),()))∧y[j]=t:=by
 intro k
 induction k with
 | zero=>
  intro i hi;obtain rfl:i=y.length:=by omega
  refine .inl ⟨zbo _ _ _ _ ?_,by simp⟩;simp only [zQ]
  rw [qc (by simp)]
 | succ k ih=>
  intro i hi;have h1:i<y.length:=by omega
  have h2:=hy.2 _ (qi h1);have h4:=hy.1;by_cases h:t=y[i]
  ·refine .inr ⟨i,h1,zbo _ _ _ _ ?_,h.symm⟩;simp only [zQ];rw [qb (by simpa using h1),zd h1];simp only [qa,zKq y[i] t ht h2,qp h,qf]
  ·have step: ∀r,zi M y (t,()) y.length ((i+1:Nat):Int)=some r->zi M y (t,()) y.length i=some r:=by
    intro r hr;apply zbo;simp only [zQ];rw [qb (by simpa using h1),zd h1,zb (by omega)];simp only [qa,zKq y[i] t ht h2,qA h,qg,qe];exact hr
   rcases ih (i+1) (by omega) with ⟨q,hq⟩ | ⟨j,hj,q,hq⟩
   ·refine .inl ⟨step _ q,?_⟩;rw [qj h1];intro s hs;rcases qz.1 hs with rfl | hs
    ·exact fun e=>h e.symm
    ·exact hq s hs
   ·exact .inr ⟨j,hj,step _ q,hq⟩
theorem zLj (t:List Int) (ht:smT t) (y:List (List Int)) (hy:smR y):(zaa M y (t,())=some ((-1,()),())∧ ∀s∈y,s≠t)∨ ∃j:Nat,∃h:j<y.length,zaa M y (t,())=some (((j:Int),()),())∧y[j]=t:=by
 rcases zMa t ht y hy y.length 0 (by omega) with ⟨q,hq⟩ | ⟨j,hj,q,hq⟩
 ·rw [e0x] at q;exact .inl ⟨zdq _ _ (by simp only [zaM,q,qa,qd]),by simpa using hq⟩
 ·rw [e0x] at q;exact .inr ⟨j,hj,zdq _ _ (by simp only [zaM,q,qa,qF]),hq⟩
theorem zHB (a:List (List Int)) (ha:smR a): ∀(k i:Nat) (left o:List (List Int)),i+k=a.length->smR left->o.length<=i-> ∃x y:List (List Int),zd9 M o left a a.length i=some (.inl (o++x,y,()))∧(∀s,x.count s=(a.drop i).count s-left.count s)∧ ∀s,y.count s=left.count s-(a.drop i).count s:=by
 intro k
 induction k with
 | zero=>
  intro i left o hi hl ho;obtain rfl:i=a.length:=by omega
  refine ⟨[],left,zjs _ _ _ _ _ ?_,by simp,by simp⟩;simp only [zdP]
  rw [qc (by simp),qP]
 | succ k ih=>
  intro i left o hi hl ho;have h1:i<a.length:=by omega
  have h4:=ha.1;have h5:=hl.1;rcases zLj a[i] (ha.2 _ (qi h1)) left hl with ⟨hz,hn⟩ | ⟨j,hj,hz,hjt⟩
  ·obtain ⟨x,y,hx,hc,hc'⟩:=ih (i+1) left (o++ [a[i]]) (by omega) hl (by simp;omega);refine ⟨a[i]::x,y,zjs _ _ _ _ _ ?_,fun s=>?_,fun s=>?_⟩
   ·simp only [zdP];rw [qb (by simpa using h1),zd h1];simp only [qa,hz];rw [qc (by simp),qb (by simp only [qD,qT];omega)];simp only [qa,qd];rw [zb (by omega),hx];simp
   ·rw [qj h1,List.count_cons,List.count_cons,hc s];by_cases e:a[i]=s
    ·subst e;rw [List.count_eq_zero_of_not_mem (fun h=>hn _ h rfl)];simp
    ·simp [e]
   ·rw [qj h1,List.count_cons,hc' s];by_cases e:a[i]=s
    ·subst e;rw [List.count_eq_zero_of_not_mem (fun h=>hn _ h rfl)];simp
    ·simp [e]
  ·obtain ⟨x,y,hx,hc,hc'⟩:=ih (i+1) (left.take j++left.drop (j+1)) o (by omega) (hl.cut j) (by omega)
   have hdel:zeR M left (j:Int) (IntKind.i64.wrap ((j:Int)+1))=some ((left.take j++left.drop (j+1),()),()):=by
    apply zt3;rw [zb (by omega)];simp only [zil];rw [qb ⟨by omega,by omega,by omega⟩,qo,qo]
   refine ⟨x,y,zjs _ _ _ _ _ ?_,fun s=>?_,fun s=>?_⟩
   ·simp only [zdP];rw [qb (by simpa using h1),zd h1];simp only [qa,hz];rw [qb (by simp),hdel];simp only [qa,qd];rw [zb (by omega),hx]
   ·have hcut:=zy7 hj s;rw [hjt] at hcut;rw [qj h1,List.count_cons,hc s,hcut];by_cases e:a[i]=s<;>simp [e]<;>omega
   ·have hcut:=zy7 hj s;rw [hjt] at hcut;rw [qj h1,List.count_cons,hc' s,hcut];by_cases e:a[i]=s<;>simp [e]<;>omega
def cov (a b:List (List Int)):Bool:=b.all (fun t=>a.any fun u=>gtT u t)&&decide (0<a.length)
theorem zJA (a b:List (List Int)) (t:List Int) (N I:Int) (ha:smR a) (ht:smT t): ∀(k i:Nat) (o:Bool),i+k=a.length->zez M a t o b N I a a.length i=some (.inl (a,(o || (a.drop i).any fun u=>gtT u t),b,N,I,())):=by
 intro k
 induction k with
 | zero=>
  intro i o hi;obtain rfl:i=a.length:=by omega
  apply zq5;simp only [ziY];rw [qc (by simp)]
  simp
 | succ k ih=>
  intro i o hi;have h1:i<a.length:=by omega
  have h4:=ha.1;apply zq5;simp only [ziY];rw [qb (by simpa using h1),zd h1,zb (by omega)];rw [qj h1,List.any_cons]
  cases o with
  | true=>
   simp only [qa,qf];rw [ih (i+1) true (by omega)]
   simp
  | false=>
   simp only [qa,qg,qe,zsO a[i] t (ha.2 _ (qi h1)) ht];rw [ih (i+1) _ (by omega)];simp
theorem zHh (a b:List (List Int)) (ha:smR a) (hb:smR b): ∀(k i:Nat),i+k=b.length->zjN M a b b.length i=some (if (b.drop i).all (fun t=>a.any fun u=>gtT u t)=true then .inl (a,()) else .inr ((false,()),())):=by
 intro k
 induction k with
 | zero=>
  intro i hi;obtain rfl:i=b.length:=by omega
  apply zuD;simp only [zll];rw [qc (by simp)]
  simp
 | succ k ih=>
  intro i hi;have h1:i<b.length:=by omega
  have h4:=hb.1;have hin:=zJA a b b[i] b.length i ha (hb.2 _ (qi h1)) a.length 0 false (by omega);rw [e0x,qk,Bool.false_or] at hin;apply zuD;simp only [zll];rw [qb (by simpa using h1),zd h1];simp only [qa,hin,qd];rw [qj h1,qR]
  cases a.any fun u=>gtT u b[i] with
  | false=>rfl
  | true=>
   rw [qc (by simp),zb (by omega),ih (i+1) (by omega),Bool.true_and]
theorem zE5 (a b:List (List Int)) (ha:smR a) (hb:smR b):zik M a b=some ((cov a b,()),()):=by
 apply zDJ;have:=zHh a b ha hb b.length 0 (by omega);rw [e0x,qk] at this;simp only [ztV,this,qa,cov]
 cases b.all fun t=>a.any fun u=>gtT u t with
 | false=>rfl
 | true=>simp
theorem zMP (u t:List Int) (hu:smT u) (ht:smT t):zk4 M u t=some ((gtT u t,()),()):=by
 apply zy5;simp only [zok,zsV u t hu ht,qa]
theorem zLt (t:List Int) (ht:smT t) (a:List (List Int)) (ha:smR a): ∀k i:Nat,i+k=a.length-> ∃r,zad M a (t,()) a.length i=some r∧(match r with | .inl _=>((a.drop i).any fun u=>gtT u t)=false | .inr r=>0<=r.1.1∧((a.drop i).any fun u=>gtT u t)=true):=by
 intro k
 induction k with
 | zero=>
  intro i hi;obtain rfl:i=a.length:=by omega
  refine ⟨.inl (),zbB _ _ _ _ (by simp [z7]),by simp⟩
 | succ k ih=>
  intro i hi;have h1:i<a.length:=by omega
  have h4:=ha.1;have hg:=zMP a[i] t (ha.2 _ (qi h1)) ht;obtain ⟨r,hr,hm⟩:=ih (i+1) (by omega);rw [qj h1,List.any_cons]
  cases hp:gtT a[i] t with
  | false=>
   refine ⟨r,zbB _ _ _ _ ?_,by simpa using hm⟩;simp only [z7];rw [qb (by simpa using h1),zd h1,zb (by omega)];simp only [qa,hg,hp,qg,qe]
   exact hr
  | true=>
   refine ⟨.inr (((i:Int),()),()),zbB _ _ _ _ ?_,Int.natCast_nonneg i,by simp⟩;simp only [z7];rw [qb (by simpa using h1),zd h1];simp only [qa,hg,hp,qf]
theorem zEi (t:List Int) (ht:smT t) (a:List (List Int)) (ha:smR a):zaN M a (t,())=some ((a.any fun u=>gtT u t,()),()):=by
 apply ziV;simp only [zbI];obtain ⟨r,hr,hm⟩:=zLt t ht a ha a.length 0 (by omega);rw [e0x] at hr;rw [qk] at hm
 cases r with
 | inl r=>
  rw [zdX a (t,()) (r:=((-1,()),())) (by simp only [za3,hr,qa,qd])];simp only at hm
  rw [hm];rfl
 | inr r=>
  rw [zdX a (t,()) (r:=r) (by simp only [za3,hr,qa,qF])];simp only at hm;simp [hm]
theorem zBM (a b:List (List Int)) (ha:smR a) (hb:smR b): ∀(k i:Nat),i+k=b.length->zgV M a b b.length i=some (if (b.drop i).all (fun t=>a.any fun u=>gtT u t)=true then .inl (a,()) else .inr ((false,()),())):=by
 intro k
 induction k with
 | zero=>
  intro i hi;obtain rfl:i=b.length:=by omega
  apply zq6;simp only [zi1];rw [qc (by simp)]
  simp
 | succ k ih=>
  intro i hi;have h1:i<b.length:=by omega
  have h4:=hb.1;apply zq6;simp only [zi1];rw [qb (by simpa using h1),zd h1];simp only [qa,zEi b[i] (hb.2 _ (qi h1)) a ha];rw [qj h1,qR]
  cases a.any fun u=>gtT u b[i] with
  | false=>rfl
  | true=>
   rw [qc (by simp),zb (by omega),ih (i+1) (by omega),Bool.true_and]
theorem zz9 (a b:List (List Int)) (ha:smR a) (hb:smR b):ze2 M a b=some ((cov a b,()),()):=by
 apply zAZ;have:=zBM a b ha hb b.length 0 (by omega);rw [e0x,qk] at this;simp only [zqp,this,qa,cov]
 cases b.all fun t=>a.any fun u=>gtT u t with
 | false=>rfl
 | true=>simp
theorem zEo {a a' b b':List (List Int)} (ha:a.Perm a') (hb:b.Perm b'):cov a b=cov a' b':=by
 have h1: ∀t,(a.any fun u=>gtT u t)=a'.any fun u=>gtT u t:=by
  intro t;rw [Bool.eq_iff_iff];simp only [List.any_eq_true];exact ⟨fun ⟨u,h,k⟩=>⟨u,ha.mem_iff.1 h,k⟩,fun ⟨u,h,k⟩=>⟨u,ha.mem_iff.2 h,k⟩⟩
 have h2:(b.all fun t=>a.any fun u=>gtT u t)=b'.all fun t=>a'.any fun u=>gtT u t:=by
  rw [Bool.eq_iff_iff];simp only [List.all_eq_true,h1];exact ⟨fun h t k=>h t (hb.mem_iff.2 k),fun h t k=>h t (hb.mem_iff.1 k)⟩
 unfold cov;rw [h2,ha.length_eq]
theorem smR.of_count {a x:List (List Int)} (ha:smR a) (h: ∀s,x.count s<=a.count s):smR x:=by
 have hm: ∀t∈x,t∈a:=fun t ht=>List.count_pos_iff.1 (by have:=List.count_pos_iff.2 ht;have:=h t;omega)
 refine ⟨?_,fun t ht=>ha.2 t (hm t ht)⟩
 have: ∀(x a:List (List Int)),(∀s,x.count s<=a.count s)->x.length<=a.length:=by
  intro x
  induction x with
  | nil=>intro a _;simp
  | cons t x ih=>
   intro a h;have ht:t∈a:=List.count_pos_iff.1 (by have:=h t;rw [List.count_cons_self] at this;omega)
   have:=ih (a.erase t) (fun s=>by
    have:=h s;rw [List.count_erase];rw [List.count_cons] at this;by_cases e:t=s
    ·subst e;simp at this ⊢; omega
    ·simp [e] at this ⊢; exact this)
   rw [List.length_erase_of_mem ht] at this;have:=List.length_pos_of_mem ht;simp;omega
 have:=this x a h;have:=ha.1;omega
theorem zLC (a b:List (List Int)) (ha:smR a) (hb:smR b): ∃n:Int,zjY M a b=some ((n,()),())∧zoA M a b=some ((n,()),()):=by
 obtain ⟨x,y,hx,hc,hc'⟩:=zHB a ha a.length 0 b [] (by omega) hb (by simp);rw [e0x,qC] at hx;simp only [qk] at hc hc';obtain ⟨x',e1,d1⟩:=zER a b ha hb;obtain ⟨y',e2,d2⟩:=zER b a hb ha;have sx:smR x:=ha.of_count (fun s=>by rw [hc s];omega);have sy:smR y:=hb.of_count (fun s=>by rw [hc' s];omega);have sx':smR x':=ha.of_count (fun s=>by rw [d1 s];omega);have sy':smR y':=hb.of_count (fun s=>by rw [d2 s];omega);have px:x'.Perm x:=List.perm_iff_count.2 fun s=>by rw [hc s,d1 s]
 have py:y'.Perm y:=List.perm_iff_count.2 fun s=>by rw [hc' s,d2 s]
 refine ⟨if x.length=0∧y.length=0 then 0 else if cov x y=true then 1 else if cov y x=true then -1 else 2,zx3 _ _ ?_,zCF _ _ ?_⟩
 ·simp only [znl];rw [qb (by have:=hb.1;omega),hx];simp only [qa,qd,zz9 x y sx sy,zz9 y x sy sx];by_cases h1:x.length=0
  ·rw [qb (by simp [h1])];by_cases h2:y.length=0
   ·rw [qb (by simp [h2]),qb ⟨h1,h2⟩]
   ·rw [qc (by simpa using h2),qc (show ¬(x.length=0∧y.length=0) from fun q=>h2 q.2)];cases cov x y<;>cases cov y x<;>rfl
  ·rw [qc (by simpa using h1),qc (show ¬(x.length=0∧y.length=0) from fun q=>h1 q.1)];cases cov x y<;>cases cov y x<;>rfl
 ·simp only [zsu,e1,e2,qa,zE5 x' y' sx' sy',zE5 y' x' sy' sx',zEo px py,zEo py px,px.length_eq,py.length_eq];by_cases h1:x.length=0
  ·rw [qb (by simp [h1])];by_cases h2:y.length=0
   ·rw [qb (by simp [h2]),qb ⟨h1,h2⟩]
   ·rw [qc (by simpa using h2),qc (show ¬(x.length=0∧y.length=0) from fun q=>h2 q.2)];cases cov x y<;>cases cov y x<;>rfl
  ·rw [qc (by simpa using h1),qc (show ¬(x.length=0∧y.length=0) from fun q=>h1 q.1)];cases cov x y<;>cases cov y x<;>rfl
def lsL (x:TLit):List (List Int):=if x.1=true then [x.2.1,x.2.2.1] else [x.2.1,x.2.2.1,x.2.1,x.2.2.1]
theorem zxk (x:TLit):ziu M x=some ((lsL x,()),())∧zmJ M x=some ((lsL x,()),()):=by
 refine ⟨zzJ _ ?_,zDK _ ?_⟩
 ·simp only [zoW,lsL];split<;>rfl
 ·simp only [zt9,lsL];split<;>rfl
def smTL (x:TLit):Prop:=smT x.2.1∧smT x.2.2.1
theorem zIi {x:TLit} (h:smTL x):smR (lsL x):=by
 unfold lsL;split
 ·refine ⟨by simp,fun t ht=>?_⟩;simp only [qz,List.not_mem_nil,or_false] at ht;rcases ht with rfl | rfl
  ·exact h.1
  ·exact h.2
 ·refine ⟨by simp,fun t ht=>?_⟩;simp only [qz,List.not_mem_nil,or_false] at ht;rcases ht with rfl | rfl | rfl | rfl
  ·exact h.1
  ·exact h.2
  ·exact h.1
  ·exact h.2
theorem zHV (c:List TLit) (hl:c.length<=1000) (hc: ∀x∈c,smTL x) (m:Nat) (hm:m<c.length): ∀(k i:Nat),i+k=c.length-> ∃r,zeF M c m c c.length i=some r∧zey M c m c c.length i=some r∧(r= .inl ()∨r= .inr ((false,()),())):=by
 intro k
 induction k with
 | zero=>
  intro i hi;obtain rfl:i=c.length:=by omega
  refine ⟨.inl (),zmG _ _ _ _ _ ?_,zmd _ _ _ _ _ ?_,.inl rfl⟩
  ·simp [zgm]
  ·simp [zf3]
 | succ k ih=>
  intro i hi;have h1:i<c.length:=by omega
  obtain ⟨r,r1,r2,r3⟩:=ih (i+1) (by omega);by_cases e:i=m
  ·refine ⟨r,zmG _ _ _ _ _ ?_,zmd _ _ _ _ _ ?_,r3⟩
   ·simp only [zgm];rw [qb (by simpa using h1),zd h1,zb (by omega)];simp only [qa];rw [qc (by simp [e])];exact r1
   ·simp only [zf3];rw [qb (by simpa using h1),zd h1,zb (by omega)];simp only [qa];rw [qc (by simp [e])];exact r2
  ·obtain ⟨n,n1,n2⟩:=zLC (lsL c[i]) (lsL c[m]) (zIi (hc _ (qi h1))) (zIi (hc _ (qi hm)))
   have hcl:zkA M c[i] c[m]=some ((n,()),()):=by
    apply zyV;simp only [zn1,zg,(zxk c[i]).1,(zxk c[m]).1,n1,qa]
   refine ⟨if n=1 then .inr ((false,()),()) else r,zmG _ _ _ _ _ ?_,zmd _ _ _ _ _ ?_,?_⟩
   ·simp only [zgm];rw [qb (by simpa using h1),zd h1,zb (by omega),zd hm];simp only [qa];rw [qb (by simp;omega)];simp only [zg,hcl,qa];by_cases h:n=1
    ·rw [qb (by simpa using h),qb h]
    ·rw [qc (by simpa using h),qc h];exact r1
   ·simp only [zf3];rw [qb (by simpa using h1),zd h1,zb (by omega),zd hm];simp only [qa];rw [qb (by simp;omega)];simp only [zg,(zxk c[i]).2,(zxk c[m]).2,n2,qa];by_cases h:n=1
    ·rw [qb (by simpa using h),qb h]
    ·rw [qc (by simpa using h),qc h];exact r2
   ·split
    ·exact .inr rfl
    ·exact r3
theorem zv2 (c:List TLit) (hl:c.length<=1000) (hc: ∀x∈c,smTL x) (m:Nat) (hm:m<c.length): ∃b:Bool,zcT M c m=some ((b,()),())∧ze1 M c m=some ((b,()),()):=by
 obtain ⟨r,r1,r2,r3⟩:=zHV c hl hc m hm c.length 0 (by omega);rw [e0x] at r1 r2;rcases r3 with rfl | rfl
 ·exact ⟨true,zvz _ _ (by simp only [zme,r1,qa,qd]),zva _ _ (by simp only [zmu,r2,qa,qd])⟩
 ·exact ⟨false,zvz _ _ (by simp only [zme,r1,qa,qF]),zva _ _ (by simp only [zmu,r2,qa,qF])⟩
theorem zMx (Ls:List (List Int)) (hx: ∀x∈Ls,x.length<=1000000) (hl:Ls.length<=1000): ∀(k i n:Nat),i+k=Ls.length->n<=1000000*i->zcX M Ls n Ls Ls.length i=some (.inl (Ls,((n+((Ls.drop i).flatten).length:Nat):Int),())):=by
 intro k
 induction k with
 | zero=>
  intro i n hi hn;obtain rfl:i=Ls.length:=by omega
  apply zl8;simp only [zeo];rw [qc (by simp),qG]
  simp
 | succ k ih=>
  intro i n hi hn;have h1:i<Ls.length:=by omega
  have h2:=hx _ (qi h1);have e:IntKind.i64.wrap ((n:Int)+(Ls[i].length:Int))=((n+Ls[i].length:Nat):Int):=by rw [w64 (by omega) (by omega)];omega
  apply zl8;simp only [zeo];rw [qb (by simpa using h1),zd h1,zb (by omega)];simp only [qa,e];rw [qc (by simp;omega),ih (i+1) _ (by omega) (by omega),qj h1,List.flatten_cons,qL];congr 4;omega
theorem zMH (Ls:List (List Int)) (hx: ∀x∈Ls,x.length<=1000000) (hl:Ls.length<=1000): ∀(k i:Nat) (o:List Int),i+k=Ls.length->o.length<=1000000*i->zcJ M o Ls Ls.length i=some (.inl (o++(Ls.drop i).flatten,())):=by
 intro k
 induction k with
 | zero=>
  intro i o hi ho;obtain rfl:i=Ls.length:=by omega
  apply zlY;simp only [zd4];rw [qc (by simp),qG]
  simp
 | succ k ih=>
  intro i o hi ho;have h1:i<Ls.length:=by omega
  have h2:=hx _ (qi h1);apply zlY;simp only [zd4];rw [qb (by simpa using h1),zd h1,zb (by omega)];simp only [qa];rw [qb (by omega),ih (i+1) _ (by omega) (by simp;omega),qj h1,List.flatten_cons,qE]
theorem p_cI (Ls:List (List Int)) (hx: ∀x∈Ls,x.length<=1000000) (hl:Ls.length<=1000) (ht:Ls.flatten.length<=1000000000):zgA M Ls=some ((Ls.flatten,()),()):=by
 apply zvR;have a:=zMx Ls hx hl Ls.length 0 0 (by omega) (by omega);have b:=zMH Ls hx hl Ls.length 0 [] (by omega) (by simp);rw [e0x] at a b;rw [qk,qJ] at a;rw [qk,qC] at b;simp only [zki,a,qa,qd];rw [qb (by omega),b];rfl
theorem zME (Ls:List (List TLit)) (hx: ∀x∈Ls,x.length<=1000000) (hl:Ls.length<=1000): ∀(k i n:Nat),i+k=Ls.length->n<=1000000*i->zbn M Ls n Ls Ls.length i=some (.inl (Ls,((n+((Ls.drop i).flatten).length:Nat):Int),())):=by
 intro k
 induction k with
 | zero=>
  intro i n hi hn;obtain rfl:i=Ls.length:=by omega
  apply zhc;simp only [zb6];rw [qc (by simp),qG]
  simp
 | succ k ih=>
  intro i n hi hn;have h1:i<Ls.length:=by omega
  have h2:=hx _ (qi h1);have e:IntKind.i64.wrap ((n:Int)+(Ls[i].length:Int))=((n+Ls[i].length:Nat):Int):=by rw [w64 (by omega) (by omega)];omega
  apply zhc;simp only [zb6];rw [qb (by simpa using h1),zd h1,zb (by omega)];simp only [qa,e];rw [qc (by simp;omega),ih (i+1) _ (by omega) (by omega),qj h1,List.flatten_cons,qL];congr 4;omega
theorem zMt (Ls:List (List TLit)) (hx: ∀x∈Ls,x.length<=1000000) (hl:Ls.length<=1000): ∀(k i:Nat) (o:List TLit),i+k=Ls.length->o.length<=1000000*i->zbf M o Ls Ls.length i=some (.inl (o++(Ls.drop i).flatten,())):=by
 intro k
 induction k with
 | zero=>
  intro i o hi ho;obtain rfl:i=Ls.length:=by omega
  apply zgH;simp only [zbV];rw [qc (by simp),qG]
  simp
 | succ k ih=>
  intro i o hi ho;have h1:i<Ls.length:=by omega
  have h2:=hx _ (qi h1);apply zgH;simp only [zbV];rw [qb (by simpa using h1),zd h1,zb (by omega)];simp only [qa];rw [qb (by omega),ih (i+1) _ (by omega) (by simp;omega),qj h1,List.flatten_cons,qE]
theorem p_cL (Ls:List (List TLit)) (hx: ∀x∈Ls,x.length<=1000000) (hl:Ls.length<=1000) (ht:Ls.flatten.length<=1000000000):zbK M Ls=some ((Ls.flatten,()),()):=by
 apply zpL;have a:=zME Ls hx hl Ls.length 0 0 (by omega) (by omega);have b:=zMt Ls hx hl Ls.length 0 [] (by omega) (by simp);rw [e0x] at a b;rw [qk,qJ] at a;rw [qk,qC] at b;simp only [zeN,a,qa,qd];rw [qb (by omega),b];rfl
theorem zBA (s:TSign) (hg:gS s.1=true) (t r:List Int) (ht:t.length<=10000) (hr:r.length<=10000) {i:Nat} {u x:List Int} (h:t.drop i=u++x) (hu:Tm s.1 u):zgR M s t i r=some ((t.take i++r++x,()),())∧zg5 M s t i r=some ((t.take i++r++x,()),()):=by
 obtain ⟨c1,c2⟩:=zsq h (Tm.pos hu);have hp:=Tm.pos hu;have he:=zze s hg t (by omega) u x i 1 h (by omega) (by omega) (by omega) hu
 have he':zes M s t i=some ((((i+u.length:Nat):Int),()),()):=by
  apply zrj;simp only [zkK,za,he,qa,qd]
 have hs:=zB9 s hg t i (by omega) (by omega);rw [h,Tm.rest hg hu x] at hs;have hd:t.drop (i+u.length)=x:=by rw [<-List.drop_drop,h,List.drop_left]
 refine ⟨zym _ _ _ _ ?_,zAV _ _ _ _ ?_⟩
 ·simp only [znb,za];rw [qb (by omega),he'];simp only [qa];rw [qb (by omega)];simp only [qo,Int.toNat_zero,qk,List.take_length,hd]
  rw [p_cI [t.take i,r,x] (by
   intro y hy;simp only [qz,List.not_mem_nil,or_false] at hy;rcases hy with rfl | rfl | rfl
   ·simp;omega
   ·omega
   ·omega) (by simp) (by simp;omega)]
  simp
 ·simp only [zqc,za];rw [qb (by omega)];simp only [qo,Int.toNat_zero,qk,List.take_length];rw [ziU (t.take i) (by simp;omega)];simp only [qa];rw [qb (by simp;omega),hs];simp only [qa];rw [qb (by omega),show ((t.length:Int)-x.length).toNat=i+u.length by omega,hd,qb (by simp;omega)]
def sd (x:TLit) (k:Int):List Int×List Int:=if k=0 then (x.2.1,x.2.2.1) else (x.2.2.1,x.2.1)
theorem zkm (x:TLit) (k:Int):zaE M x k=some (((sd x k).1,(sd x k).2,()),())∧zbs M x k=some (((sd x k).1,(sd x k).2,()),()):=by
 refine ⟨zBh _ _ ?_,zCi _ _ ?_⟩
 ·simp only [zrB,sd];by_cases h:k=0
  ·rw [qb (by simpa using h),qb h]
  ·rw [qc (by simpa using h),qc h]
 ·simp only [zsh,sd];by_cases h:k=0
  ·rw [qb (by simpa using h),qb h]
  ·rw [qc (by simpa using h),qc h]
def is01 (k:Int):Bool:=decide (0<=k)&&decide (k<=1)
theorem zxq (k:Int):zim M k=some ((is01 k,()),()):=by
 apply zDV;simp only [ztN,is01];by_cases h:k=0
 ·subst h;rfl
 ·rw [qc (by simpa using h)];by_cases h1:k=1
  ·subst h1;rfl
  ·have:(k==(1:Int))=false:=by simpa using h1
   rw [this]
   have:(decide (0<=k)&&decide (k<=1))=false:=by
    rw [Bool.and_eq_false_iff];simp only [decide_eq_false_iff_not];omega
   rw [this]
theorem zzF (c:List TLit) (hc:c.length<=1000) (i k:Int):zjJ M c i k=some ((decide (0<=i)&&decide (i<(c.length:Int))&&is01 k,()),()):=by
 apply zEP;rw [zvP,w64 (by omega) (by omega),zfw,zfw];simp only [qa,is01];have:decide (i<=(c.length:Int)-1)=decide (i<(c.length:Int)):=by rw [decide_eq_decide];omega
 rw [this];cases (decide (0<=i)&&decide (i<(c.length:Int)))<;>rfl
theorem zKl (a b:List Int):cmpK a b=0∨cmpK a b=1∨cmpK a b= -1∨cmpK a b=2:=by
 unfold cmpK;split
 ·exact .inl rfl
 ·split
  ·exact .inr (.inl rfl)
  ·split
   ·exact .inr (.inr (.inl rfl))
   ·exact .inr (.inr (.inr rfl))
def ovr (a b:List Int):Bool:=decide (0<cmpK a b)
theorem zB5 (a b:List Int) (ha:smT a) (hb:smT b):zfm M a b=some ((!ovr a b,()),())∧zko M a b=some ((ovr a b,()),()):=by
 have h:=zCL a b ha hb;have hv:=zKl a b;refine ⟨zCo _ _ ?_,zDU _ _ ?_⟩
 ·simp only [zsD,h.1,qa,ovr];rcases hv with e | e | e | e<;>rw [e]<;>rfl
 ·simp only [ztL,h.2,qa,ovr];rcases hv with e | e | e | e<;>rw [e]<;>rfl
theorem zzb (c:List TLit) (hl:c.length<=20) (hc: ∀x∈c,x.2.1.length<=1000∧x.2.2.1.length<=1000) (b:Bool):zbu M c b=some ((outC c,(if b=true then 0 else 5),()),()):=by
 apply zCx;simp only [zsx,(zle c hl hc).1,qa];cases b<;>rfl
abbrev TWay:=Int×Int×Int×Int×Int×Unit
theorem zLY (s:TSign) (w:TWay) (u l r v:List Int) (f:List (List Int)) (cb eb:List TLit) (hl:cb.length<=1000): ∀(k i:Nat) (o:List TLit),i+k=cb.length->o.length<=i->zft M s w u l r v f cb eb o cb.length i=some (.inl (s,w,u,l,r,v,f,cb,eb,o++((cb.drop i).zipIdx i).filterMap (fun p=>if (p.2:Int)=w.1 then none else some p.1),())):=by
 intro k
 induction k with
 | zero=>
  intro i o hi ho;obtain rfl:i=cb.length:=by omega
  apply zpo;simp only [zhp];rw [qc (by simp),qG]
  simp
 | succ k ih=>
  intro i o hi ho;have h1:i<cb.length:=by omega
  apply zpo;simp only [zhp];rw [qb (by simpa using h1),qb (by omega),qo,qu h1];simp only [qa];rw [qj h1,List.zipIdx_cons,List.filterMap_cons];by_cases h:(i:Int)=w.1
  ·rw [qc (by simpa using h),qb h];simp only [qa,qd];rw [zb (by omega)];exact ih (i+1) o (by omega) (by omega)
  ·rw [qb (by simpa using h),qc h,qb (by simp;omega)];simp only [qa,qd];rw [zb (by omega)];have:=ih (i+1) (o++ [cb[i]]) (by omega) (by simp;omega);rw [qE] at this;exact this
end Go.Proofs.YtchkojfhcdcnmaaGreatMd.Ev
