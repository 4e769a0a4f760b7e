/- Texts laid together: YS, WAky, YAb, YAc, YAd, YAe, YBb, YBaz, YCa, PLz, HIa, HIb, YBc, PYby, PYb, XAoy; no condition but those that each theorem names. -/
import Derived.Test.YtchkojfhcdcnmaaGreatMdSGf
import Derived.Test.YtchkojfhcdcnmaaGreatMdXAc
import Derived.Test.YtchkojfhcdcnmaaGreatMdQKa
namespace Go.Proofs.YtchkojfhcdcnmaaGreatMd.Ev
open Go
set_option autoImplicit false
set_option linter.unusedVariables false
set_option linter.unusedSimpArgs false
theorem zJM {a:List Int} {c:List TLit} (h:clOK a c=true):c.length<=8∧ ∀x∈c,smL x:=by
 obtain ⟨c1,c2⟩:=zm.1 h;exact ⟨c1,fun x hx=>by have:=zbt (c2 x hx);exact ⟨by omega,by omega⟩⟩
theorem zLv (c:List TLit) (hc:c.length<=1000) (hx: ∀x∈c,smL x): ∃b:Bool,zfs M c=some ((b,()),()):=⟨_,(zIZ c hc hx).2⟩
section
variable (s : TSign) (hg : gS s.1 = true)
include hg
theorem zL8 (c:List TLit) (hc:clOK s.1 c=true) (l:List (List TLit)) (hl:l.length<=1048576) (hx: ∀d∈l,clOK s.1 d=true): ∃b:Bool,zdK M s c l=some ((b,()),()):=⟨_,(zKG s hg c hc l hl hx).2⟩
section
variable (steps : List TStep) (hsc : ∀ x ∈ steps, clOK s.1 x.2.2.2.1 = true) (ps : List Int) (hp : ps.length <= 1048576) (hps : ∀ k ∈ ps, 0 <= k ∧ k < (steps.length : Int))
include hsc hp hps
omit hg in
theorem zHR (round:Int) (h0:0<ps.length): ∃r:Int,r∈ps∧zgi M steps ps round=some ((r,()),()):=by
 obtain ⟨j,h,_,e⟩:=zDj s steps hsc ps hp hps round h0;exact ⟨ps[j],qi h,e⟩
omit hg in
theorem zJg: ∃o':List Int,zha M steps ps=some ((o',()),())∧o'.length<=10∧ ∀x∈o',x∈ps∧isU (gtC steps x)=true:=
 ⟨_,(zGc s steps hsc ps hp hps).2,zB6 steps ps [] (by simp),fun x hx=>by
  rcases zGk steps ps [] x hx with h | h
  ·simp at h
  ·exact h⟩
end
section
variable (c d : List TLit) (hc : clOK s.1 c = true) (hd : clOK s.1 d = true)
include hc hd
theorem zMw (i sc j ot m1 m2 m3 m4:Int) (x:TLit) (D:List TLit) (L:Nat) (hL:L<=1000): ∀(k q:Nat) (o:List TWay),q+k=L->o.length+k<=1000000-> ∃o':List TWay,zdl M c d s o i sc j x ot m1 m2 D m3 m4 L q=some (.inl (c,d,s,o',i,sc,j,x,ot,m1,m2,D,m3,m4,()))∧o'.length<=o.length+k:=by
 intro k
 induction k with
 | zero=>
  intro q o hq ho;obtain rfl:q=L:=by omega
  refine ⟨o,zir _ _ _ _ _ _ _ _ _ _ _ _ _ _ _ _ ?_,by omega⟩;simp only [zc1,za,zg]
  rw [qc (by simp)]
 | succ k ih=>
  intro q o hq ho;have hlt:decide ((q:Int)<(L:Int))=true:=by simp;omega
  obtain ⟨r,_,r2,_⟩:=zAY s hg c d hc hd i sc j ot q
  cases h:(r.1.2.1==0) with
  | true=>
   obtain ⟨o',e1,e2⟩:=ih (q+1) (o++ [(i,sc,j,ot,(q:Int),())]) (by omega) (by simp;omega);refine ⟨o',zir _ _ _ _ _ _ _ _ _ _ _ _ _ _ _ _ ?_,by simp at e2;omega⟩;simp only [zc1,za,zg,hlt,qf,r2,h,qa];rw [qb (by simp;omega)];simp only [qa,qd,za,zg];rw [zb (by omega)]
   exact e1
  | false=>
   obtain ⟨o',e1,e2⟩:=ih (q+1) o (by omega) (by omega);refine ⟨o',zir _ _ _ _ _ _ _ _ _ _ _ _ _ _ _ _ ?_,by omega⟩;simp only [zc1,za,zg,hlt,qf,r2,h,qa,qg,qe,qd];rw [zb (by omega)];exact e1
theorem zML (i sc m1 m2 m3 m4:Int) (j:Int) (x:TLit) (hx:litOK s.1 x=true) (D:List TLit): ∀(k n:Nat) (o:List TWay),n+k=2->o.length+100*k<=1000000-> ∃o':List TWay,zea M c d s o i sc j x n m1 m2 D m3 m4=some (.inl (c,d,s,o',i,sc,m1,m2,D,m3,m4,()))∧o'.length<=o.length+100*k:=by
 intro k
 induction k with
 | zero=>
  intro n o hn ho;obtain rfl:n=2:=by omega
  refine ⟨o,zoc _ _ _ _ _ _ _ _ _ _ _ _ _ _ ?_,by omega⟩;simp only [zf0,za]
  rw [qc (by simp)]
 | succ k ih=>
  intro n o hn ho;have hlt:decide ((n:Int)<2)=true:=by simp;omega
  have hs:=(zkm x n).2;have lim:=zbt hx;have hl:(sd x n).1.length<=100:=by unfold sd;split<;>simp only<;>omega
  obtain ⟨o1,f1,f2⟩:=zMw s hg c d hc hd i sc j n m1 m2 m3 m4 x D (sd x n).1.length (by omega) _ 0 o (qJ _) (by omega);rw [e0x] at f1;obtain ⟨o',e1,e2⟩:=ih (n+1) o1 (by omega) (by omega);refine ⟨o',zoc _ _ _ _ _ _ _ _ _ _ _ _ _ _ ?_,by omega⟩;simp only [zf0,za,zg,hlt,qf,hs,f1,qa,qd];rw [zb (by omega)];exact e1
theorem zMM (i sc m1 m2:Int): ∀(k j:Nat) (o:List TWay),j+k=d.length->o.length+200*k<=1000000-> ∃o':List TWay,zgo M c d s o i sc m1 m2 d d.length j=some (.inl (c,d,s,o',i,sc,m1,m2,()))∧o'.length<=o.length+200*k:=by
 have d1:=(zm.1 hd).1;intro k
 induction k with
 | zero=>
  intro j o hj ho;obtain rfl:j=d.length:=by omega
  refine ⟨o,zqL _ _ _ _ _ _ _ _ _ _ _ ?_,by omega⟩;simp only [zhU,za]
  rw [qc (by simp)]
 | succ k ih=>
  intro j o hj ho;have h:j<d.length:=by omega
  have hlt:decide ((j:Int)<(d.length:Int))=true:=by simp;omega
  obtain ⟨o1,f1,f2⟩:=zML s hg c d hc hd i sc m1 m2 d.length j j d[j] ((zm.1 hd).2 _ (qi h)) d 2 0 o (by omega) (by omega);rw [e0x] at f1;obtain ⟨o',e1,e2⟩:=ih (j+1) o1 (by omega) (by omega);refine ⟨o',zqL _ _ _ _ _ _ _ _ _ _ _ ?_,by omega⟩;simp only [zhU,za,zg,hlt,qf,zd h,f1,qa,qd];rw [zb (by omega)];exact e1
theorem zMI (i m1 m2:Int): ∀(k n:Nat) (o:List TWay),n+k=2->o.length+2000*k<=1000000-> ∃o':List TWay,zgT M c d s o i n m1 m2=some (.inl (c,d,s,o',m1,m2,()))∧o'.length<=o.length+2000*k:=by
 have d1:=(zm.1 hd).1;intro k
 induction k with
 | zero=>
  intro n o hn ho;obtain rfl:n=2:=by omega
  refine ⟨o,zrr _ _ _ _ _ _ _ _ ?_,by omega⟩;simp only [zjd,za]
  rw [qc (by simp)]
 | succ k ih=>
  intro n o hn ho;have hlt:decide ((n:Int)<2)=true:=by simp;omega
  obtain ⟨o1,f1,f2⟩:=zMM s hg c d hc hd i n m1 m2 d.length 0 o (by omega) (by omega);rw [e0x] at f1;obtain ⟨o',e1,e2⟩:=ih (n+1) o1 (by omega) (by omega);refine ⟨o',zrr _ _ _ _ _ _ _ _ ?_,by omega⟩;simp only [zjd,za,hlt,qf,f1,qa,qd];rw [zb (by omega)];exact e1
set_option maxRecDepth 20000 in
theorem zMz: ∀(k i:Nat) (o:List TWay),i+k=c.length->o.length+4000*k<=1000000-> ∃o':List TWay,zjK M c d s o c.length i=some (.inl (o',()))∧o'.length<=o.length+4000*k:=by
 have c1:=(zm.1 hc).1;intro k
 induction k with
 | zero=>
  intro i o hi ho;obtain rfl:i=c.length:=by omega
  refine ⟨o,zuw _ _ _ _ _ _ ?_,by omega⟩;simp only [zly]
  rw [qc (by simp)]
 | succ k ih=>
  intro i o hi ho;have hlt:decide ((i:Int)<(c.length:Int))=true:=by simp;omega
  have hq2:o.length+2000*2<=1000000:=by
   have q1:2000*2<=4000*(k+1):=by omega
   exact Nat.le_trans (Nat.add_le_add_left q1 _) ho
  have hz2:0+2=2:=rfl;obtain ⟨o1,f1,f2⟩:=zMI s hg c d hc hd i c.length i 2 0 o hz2 hq2;rw [e0x] at f1;obtain ⟨o',e1,e2⟩:=ih (i+1) o1 (by omega) (by omega);refine ⟨o',zuw _ _ _ _ _ _ ?_,by omega⟩;simp only [zly,za,hlt,qf,f1,qa,qd];rw [zb (by omega)];exact e1
theorem zLb: ∃o:List TWay,zpT M s c d=some ((o,()),())∧o.length<=40000:=by
 have c1:=(zm.1 hc).1
 have hq:([]:List TWay).length+4000*c.length<=1000000:=by
  have e:([]:List TWay).length=0:=rfl;rw [e];omega
 obtain ⟨o,e1,e2⟩:=zMz s hg c d hc hd c.length 0 [] (qJ _) hq;rw [e0x] at e1;refine ⟨o,zDF _ _ _ ?_,by simp only [qT] at e2;omega⟩;simp only [ztK,za,e1,qa,qd]
end
end
theorem zIo: ∀(c:List TLit) (ts:List (List Int)),(wtZ c ts).length<=c.length
 | [],_=>by simp [wtZ]
 | _::_,[]=>by simp [wtZ]
 | _::_,[_]=>by simp [wtZ]
 | y::c,a::b::r=>by simp only [wtZ,qD];have:=zIo c r;omega
theorem zGp: ∀(l:List (List Int)) (m:List (Int×Int)) (y:List Int),y∈rnL m l-> ∃t∈l,y.length=t.length
 | [],_,y,h=>by simp [rnL] at h
 | t::r,m,y,h=>by
  simp only [rnL] at h;rcases qz.1 h with rfl | h
  ·exact ⟨t,by simp,(zwM t m).1⟩
  ·obtain ⟨u,hu,e⟩:=zGp r _ y h;exact ⟨u,qn _ hu,e⟩
theorem zLJ {a:List Int} {c:List TLit} (hc:clOK a c=true):(rnC c).length<=8∧ ∀x∈rnC c,x.2.1.length<=100∧x.2.2.1.length<=100:=by
 obtain ⟨c1,c2⟩:=zm.1 hc;have h1:=zIo c (rnL [] (tms c));refine ⟨by unfold rnC;omega,fun x hx=>?_⟩;obtain ⟨k1,k2⟩:=zBX _ _ x hx
 have key: ∀y∈rnL [] (tms c),y.length<=100:=by
  intro y hy;obtain ⟨t,ht,e⟩:=zGp _ _ _ hy;obtain ⟨z,hz,e'⟩:=zc3.1 ht;have:=zbt (c2 z hz);rcases e' with rfl | rfl<;>omega
 exact ⟨key _ k1,key _ k2⟩
theorem zFc (c d:List TLit) (hl:c.length=d.length) (hc:c.length<=1000) (hx: ∀x∈c,x.2.1.length<=100∧x.2.2.1.length<=100): ∀k i:Nat,i+k=c.length-> ∃b:Bool,ziF M c d c.length i=some (if b=true then .inl () else .inr ((false,()),())):=by
 intro k
 induction k with
 | zero=>
  intro i hi;obtain rfl:i=c.length:=by omega
  refine ⟨true,zhG _ _ _ _ ?_⟩;simp only [zdA];rw [qc (by simp)]
  rfl
 | succ k ih=>
  intro i hi;have h:i<c.length:=by omega
  have h':i<d.length:=by omega
  obtain ⟨b,hb⟩:=ih (i+1) (by omega);have g1:0<=(i:Int)∧(i:Int)<(c.length:Int):=by omega
  have g2:0<=(i:Int)∧(i:Int)<(d.length:Int):=by omega
  have e1:c[(i:Int).toNat]?=some c[i]:=by rw [qo,qu h]
  have e2:d[(i:Int).toNat]?=some d[i]:=by rw [qo,qu h']
  have hlt:decide ((i:Int)<(c.length:Int))=true:=by simp;omega
  have hxi:=hx _ (qi h);obtain ⟨b1,hb1⟩: ∃b:Bool,zaS M c[i].2.1 d[i].2.1=some ((b,()),()):=⟨_,zlU c[i].2.1 d[i].2.1 (by omega)⟩;obtain ⟨b2,hb2⟩: ∃b:Bool,zaS M c[i].2.2.1 d[i].2.2.1=some ((b,()),()):=⟨_,zlU c[i].2.2.1 d[i].2.2.1 (by omega)⟩;by_cases hp:(!(c[i].1==d[i].1))=true
  ·refine ⟨false,zhG _ _ _ _ ?_⟩;simp only [zdA,hlt,qf,qb g1,qb g2,e1,e2,qa];rw [qb hp];rfl
  ·cases b1 with
   | false=>
    refine ⟨false,zhG _ _ _ _ ?_⟩;simp only [zdA,hlt,qf,qb g1,qb g2,e1,e2,qa,hb1];rw [qc hp]
    rfl
   | true=>
   cases b2 with
   | false=>
    refine ⟨false,zhG _ _ _ _ ?_⟩;simp only [zdA,hlt,qf,qb g1,qb g2,e1,e2,qa,hb1,hb2];rw [qc hp]
    rfl
   | true=>
    refine ⟨b,zhG _ _ _ _ ?_⟩;simp only [zdA,hlt,qf,qb g1,qb g2,e1,e2,qa,hb1,hb2];rw [qc hp,zb (by omega)];simp only [qm,qg,qe];exact hb
theorem zKo {a:List Int} (c d:List TLit) (hc:clOK a c=true) (hd:clOK a d=true): ∃b:Bool,zp0 M c d=some ((b,()),()):=by
 obtain ⟨c1,c2⟩:=zm.1 hc;obtain ⟨d1,d2⟩:=zm.1 hd
 have lim: ∀x:TLit,litOK a x=true->x.2.1.length<=1000∧x.2.2.1.length<=1000:=fun x hx=>by
  obtain ⟨h1,h2⟩:=z8.1 hx;have:=zbt hx;omega
 have r1:=(zyT c (by omega) (fun x hx=>lim x (c2 x hx))).2;have r2:=(zyT d (by omega) (fun x hx=>lim x (d2 x hx))).2;obtain ⟨hl,hx⟩:=zLJ hc;by_cases e:(rnC c).length=(rnC d).length
 ·obtain ⟨b,hb⟩:=zFc (rnC c) (rnC d) e (by omega) hx (rnC c).length 0 (by omega);rw [e0x] at hb;refine ⟨b,zxW _ _ ?_⟩;simp only [zpO,r1,r2,qa,hb];rw [qc (by simp [e])];cases b<;>rfl
 ·refine ⟨false,zxW _ _ ?_⟩;simp only [zpO,r1,r2,qa];rw [qb (by simp;omega)]
section
variable (s : TSign) (hg : gS s.1 = true) (c : List TLit) (hc : clOK s.1 c = true)
include hg hc
theorem zMr (lits:List Int) (i sc j m1 m2 m3 m4:Int): ∀(k n:Nat) (o:List TWay),n+k=2->o.length+k<=1000000-> ∃o':List TWay,zcY M c s lits o i sc j n m1 m2 m3 m4=some (.inl (c,s,lits,o',i,sc,m1,m2,m3,m4,()))∧o'.length<=o.length+k:=by
 intro k
 induction k with
 | zero=>
  intro n o hn ho;obtain rfl:n=2:=by omega
  refine ⟨o,zhJ _ _ _ _ _ _ _ _ _ _ _ _ ?_,by omega⟩;simp only [zcL,za]
  rw [qc (by simp)]
 | succ k ih=>
  intro n o hn ho;obtain ⟨r,_,r2,_⟩:=zAo s hg c hc i sc j n 0;have hlt:decide ((n:Int)<2)=true:=by simp;omega
  cases h:(r.1.2.1==0) with
  | true=>
   obtain ⟨o',e1,e2⟩:=ih (n+1) (o++ [(i,sc,j,(n:Int),0,())]) (by omega) (by simp;omega);refine ⟨o',zhJ _ _ _ _ _ _ _ _ _ _ _ _ ?_,by simp at e2;omega⟩;simp only [zcL,za,hlt,qf,r2,h,qa];rw [qb (by simp;omega)];simp only [qa,qd,za];rw [zb (by omega)]
   exact e1
  | false=>
   obtain ⟨o',e1,e2⟩:=ih (n+1) o (by omega) (by omega);refine ⟨o',zhJ _ _ _ _ _ _ _ _ _ _ _ _ ?_,by omega⟩;simp only [zcL,za,hlt,qf,r2,h,qa,qg,qe,qd];rw [zb (by omega)];exact e1
theorem zMB (lits:List Int) (i sc m1 m2:Int): ∀(k j:Nat) (o:List TWay),j+k=c.length->o.length+2*k<=1000000-> ∃o':List TWay,zed M c s lits o i sc m1 m2 c.length j=some (.inl (c,s,lits,o',i,sc,m1,m2,()))∧o'.length<=o.length+2*k:=by
 have c1:=(zm.1 hc).1;intro k
 induction k with
 | zero=>
  intro j o hj ho;obtain rfl:j=c.length:=by omega
  refine ⟨o,zog _ _ _ _ _ _ _ _ _ _ ?_,by omega⟩;simp only [zgr,za]
  rw [qc (by simp)]
 | succ k ih=>
  intro j o hj ho;have hlt:decide ((j:Int)<(c.length:Int))=true:=by simp;omega
  obtain ⟨o1,f1,f2⟩:=zMr s hg c hc lits i sc j m1 m2 c.length j 2 0 o (by omega) (by omega);rw [e0x] at f1;obtain ⟨o',e1,e2⟩:=ih (j+1) o1 (by omega) (by omega);refine ⟨o',zog _ _ _ _ _ _ _ _ _ _ ?_,by omega⟩;simp only [zgr,za,hlt,qf,f1,qa,qd];rw [zb (by omega)];exact e1
theorem zKI (lits:List Int) (i m1 m2:Int): ∀(k n:Nat) (o:List TWay),n+k=2->o.length+16*k<=1000000-> ∃o':List TWay,zfj M c s lits o i n m1 m2=some (.inl (c,s,lits,o',m1,m2,()))∧o'.length<=o.length+16*k:=by
 have c1:=(zm.1 hc).1;intro k
 induction k with
 | zero=>
  intro n o hn ho;obtain rfl:n=2:=by omega
  refine ⟨o,zpn _ _ _ _ _ _ _ _ ?_,by omega⟩;simp only [zhg,za]
  rw [qc (by simp)]
 | succ k ih=>
  intro n o hn ho;have hlt:decide ((n:Int)<2)=true:=by simp;omega
  obtain ⟨o1,f1,f2⟩:=zMB s hg c hc lits i n m1 m2 c.length 0 o (by omega) (by omega);rw [e0x] at f1;obtain ⟨o',e1,e2⟩:=ih (n+1) o1 (by omega) (by omega);refine ⟨o',zpn _ _ _ _ _ _ _ _ ?_,by omega⟩;simp only [zhg,za,hlt,qf,f1,qa,qd];rw [zb (by omega)];exact e1
theorem zMC: ∀(k i:Nat) (lits:List Int) (o:List TWay),i+k=c.length->lits.length<=i->o.length<=32*i-> ∃(lits':List Int) (o':List TWay),zgL M c s lits o c.length i=some (.inl (lits',o',()))∧lits'.length<=8∧o'.length<=256:=by
 have c1:=(zm.1 hc).1;intro k
 induction k with
 | zero=>
  intro i lits o hi hl ho;obtain rfl:i=c.length:=by omega
  refine ⟨lits,o,zmz _ _ _ _ _ _ ?_,by omega,by omega⟩;simp only [zge,za]
  rw [qc (by simp)]
 | succ k ih=>
  intro i lits o hi hl ho;have hlt:decide ((i:Int)<(c.length:Int))=true:=by simp;omega
  obtain ⟨r,_,r2,_⟩:=zyz s hg c hc i
  cases h:(r.1.2.1==0) with
  | true=>
   obtain ⟨o1,f1,f2⟩:=zKI s hg c hc (lits++ [(i:Int)]) i c.length i 2 0 o (by omega) (by omega);rw [e0x] at f1;obtain ⟨l',o',e1,e2,e3⟩:=ih (i+1) (lits++ [(i:Int)]) o1 (by omega) (by simp;omega) (by omega);refine ⟨l',o',zmz _ _ _ _ _ _ ?_,e2,e3⟩;simp only [zge,za,hlt,qf,r2,h,qa];rw [qb (by simp;omega)];simp only [qa,qd,za,f1];rw [zb (by omega)]
   exact e1
  | false=>
   obtain ⟨o1,f1,f2⟩:=zKI s hg c hc lits i c.length i 2 0 o (by omega) (by omega);rw [e0x] at f1;obtain ⟨l',o',e1,e2,e3⟩:=ih (i+1) lits o1 (by omega) (by omega) (by omega);refine ⟨l',o',zmz _ _ _ _ _ _ ?_,e2,e3⟩;simp only [zge,za,hlt,qf,r2,h,qa,qg,qe,qd,f1];rw [zb (by omega)];exact e1
theorem zGF: ∃(lits:List Int) (o:List TWay),zkO M s c=some ((lits,o,()),())∧lits.length<=8∧o.length<=256:=by
 obtain ⟨l,o,e1,e2,e3⟩:=zMC s hg c hc c.length 0 [] [] (by omega) (by simp) (by simp);rw [e0x] at e1;refine ⟨l,o,zBG _ _ ?_,e2,e3⟩;simp only [zrz,za,e1,qa,qd]
end
def okX (a:List Int) (x:TStep):Prop:=clOK a x.2.2.2.1=true∧x.2.1.length<=20∧x.2.2.1.length<=20
def okS (a:List Int) (l:List TStep):Prop:=l.length<=200∧ ∀x∈l,okX a x
def okQ (n:Nat) (ps:List Int):Prop:=ps.length<=n∧ ∀k∈ps,0<=k∧k<(n:Int)
theorem okQ.mono {n m:Nat} {ps:List Int} (h:okQ n ps) (k:n<=m):okQ m ps:=⟨by have:=h.1;omega,fun x hx=>by have:=h.2 x hx;omega⟩
theorem okS.push {a:List Int} {l:List TStep} (h:okS a l) (h2:l.length<200) {x:TStep} (hx:okX a x):okS a (l++ [x]):=
 ⟨by simp;omega,fun y hy=>by
  rcases qr.1 hy with hy | hy
  ·exact h.2 y hy
  ·rw [qM.1 hy];exact hx⟩
section
variable (s : TSign) (hg : gS s.1 = true) (inputs : List (List TLit)) (hi : inputs.length <= 1048576) (hic : ∀ c ∈ inputs, clOK s.1 c = true)
include hg hi hic
theorem zC5 (steps:List TStep) (hS:okS s.1 steps) (rule:Int) (par way:List Int) (hp:par.length<=20) (hw:way.length<=20) (hpr: ∀k∈par,0<=k∧k<(steps.length:Int)):
  ∃(x:TStep) (ok:Bool),zg2 M s inputs steps rule par way=some ((x,ok,()),(steps,()))∧okX s.1 x:=by
 obtain ⟨ok,C,e,hC⟩:=zK3 s hg inputs hi hic steps (by have:=hS.1;omega) (fun x hx=>(hS.2 x hx).1) par way (by omega) (by omega) hpr rule
 cases ok with
 | false=>
  refine ⟨(0,[],[],[],()),false,zvD _ _ _ _ _ _ ?_,by simp [clOK],by simp,by simp⟩;simp only [zmk,za,e,qa]
  rfl
 | true=>
  refine ⟨(rule,par,way,C,()),true,zvD _ _ _ _ _ _ ?_,hC rfl,hp,hw⟩;simp only [zmk,za,e,qa,ziU par (by omega),ziU way (by omega)];rfl
omit hg hi hic in
theorem zKs (code:Int) (steps:List TStep) (hS:okS s.1 steps) (ps:List Int) (x:TStep) (hx:okX s.1 x):
  ∃(b:Bool) (code':Int) (steps':List TStep),(∀u:Value,zgv M (s,inputs,(code,steps,u,()),ps,()) x=some ((b,()),((s,inputs,(code',steps',u,()),ps,()),())))∧okS s.1 steps'∧(b=true->steps'=steps++ [x])∧(b=false->steps'=steps):=by
 by_cases h:steps.length=200
 ·refine ⟨false,3,steps,fun u=>zuu _ _ ?_,hS,fun h=>(by cases h),fun _=>rfl⟩;simp only [zlI,za];rw [qb (by simp [h])]
 ·have h1:=hS.1;refine ⟨true,code,steps++ [x],fun u=>zuu _ _ ?_,hS.push (by omega) hx,fun _=>rfl,fun h=>by cases h⟩;simp only [zlI,za,zef];rw [qc (by simp;omega),qb (by simp;omega)]
omit hi hic in
theorem zH1 (code:Int) (steps:List TStep) (hS:okS s.1 steps) (ps:List Int) (x:TStep) (hx:okX s.1 x): ∀k i:Nat,i+k=steps.length-> ∃b:Bool,∀u:Value,
  zdJ M (s.1,inputs,code,steps,u,ps,()) x steps.length i=some (if b=true then .inl ((s.1,inputs,code,steps,u,ps,()),x,()) else .inr ((true,()),((s,inputs,(code,steps,u,()),ps,()),()))):=by
 have _:=hg;intro k
 induction k with
 | zero=>
  intro i hi;obtain rfl:i=steps.length:=by omega
  refine ⟨true,fun u=>zi6 _ _ _ _ ?_⟩;simp only [zdp,zef];rw [qc (by simp)]
  rfl
 | succ k ih=>
  intro i hi;have h:i<steps.length:=by omega
  have h1:=hS.1;obtain ⟨b,hb⟩:=zKo x.2.2.2.1 steps[i].2.2.2.1 hx.1 (hS.2 _ (qi h)).1;have hlt:decide ((i:Int)<(steps.length:Int))=true:=by simp;omega
  have g1:0<=(i:Int)∧(i:Int)<(steps.length:Int):=by omega
  have e1:steps[(i:Int).toNat]?=some steps[i]:=by rw [qo,qu h]
  cases b with
  | true=>
   refine ⟨false,fun u=>zi6 _ _ _ _ ?_⟩;simp only [zdp,zef,hlt,qf,qb g1,e1,hb,qa]
   rfl
  | false=>
   obtain ⟨b,hb'⟩:=ih (i+1) (by omega);refine ⟨b,fun u=>zi6 _ _ _ _ ?_⟩;simp only [zdp,zef,hlt,qf,qb g1,e1,hb,qa,qg,qe];rw [zb (by omega)];exact hb' u
def Nxt (a:List Int) (steps:List TStep) (steps':List TStep) (ps':List Int):Prop:=okS a steps'∧steps.length<=steps'.length∧okQ steps'.length ps'
theorem zEb (code:Int) (steps:List TStep) (hS:okS s.1 steps) (ps:List Int) (hP:okQ steps.length ps) (rule:Int) (par way:List Int) (hp:par.length<=20) (hw:way.length<=20) (hpr: ∀k∈par,0<=k∧k<(steps.length:Int)):
  ∃(b:Bool) (code':Int) (steps':List TStep) (ps':List Int),(∀u:Value,zd0 M (s,inputs,(code,steps,u,()),ps,()) rule par way=some ((b,()),((s,inputs,(code',steps',u,()),ps',()),())))∧Nxt s.1 steps steps' ps':=by
 have h1:=hS.1;have h2:=hP.1;obtain ⟨x,ok,e,hx⟩:=zC5 s hg inputs hi hic steps hS rule par way hp hw hpr;obtain ⟨tb,et⟩:=zLv x.2.2.2.1 (by have:=(zm.1 hx.1).1;omega) (zJM hx.1).2
 cases tb with
 | true=>
  refine ⟨true,code,steps,ps,fun u=>zf4 _ _ _ _ ?_,hS,ql _,hP⟩;simp only [zcU,za,e,et,qa]
  rfl
 | false=>
  obtain ⟨b,hb⟩:=zH1 s hg inputs code steps hS ps x hx steps.length 0 (by omega);rw [e0x] at hb
  cases b with
  | false=>
   refine ⟨true,code,steps,ps,fun u=>zf4 _ _ _ _ ?_,hS,ql _,hP⟩
   simp only [zcU,za,zef,e,et,hb u,qa,qg,qe,qF]
  | true=>
   obtain ⟨b,code',steps',f1,f2,f3,f4⟩:=zKs s inputs code steps hS ps x hx
   cases b with
   | false=>
    obtain rfl:=f4 rfl;refine ⟨false,code',steps',ps,fun u=>zf4 _ _ _ _ ?_,hS,ql _,hP⟩;simp only [zcU,za,zef,e,et,hb u,qa,qg,qe,qf,qd,f1 u]
    rfl
   | true=>
    obtain rfl:=f3 rfl;have hl:(steps++ [x]).length=steps.length+1:=by simp
    have hw1:IntKind.i64.wrap (((steps++ [x]).length:Int)-1)=(steps.length:Int):=by rw [w64 (by rw [hl];omega) (by rw [hl];omega),hl];omega
    have hP':okQ (steps++ [x]).length (ps++ [(steps.length:Int)]):=by
     refine ⟨by rw [hl];simp;omega,fun k hk=>?_⟩;rw [hl];rcases qr.1 hk with hk | hk
     ·have:=hP.2 k hk;omega
     ·rw [qM.1 hk];omega
    have hroom:(List.length ps+List.length ([(steps.length:Int)]:List Int))*8<=140737488355328:=by simp;omega
    cases hz:((x.2.2.2.1.length:Int)==0) with
    | true=>
     refine ⟨false,1,steps++ [x],ps++ [(steps.length:Int)],fun u=>zf4 _ _ _ _ ?_,f2,by omega,hP'⟩;simp only [zcU,za,zef,e,et,hb u,qa,qg,qe,qf,qd,f1 u,hw1,hz,qm]
     rw [qb hroom]
    | false=>
     refine ⟨true,code',steps++ [x],ps++ [(steps.length:Int)],fun u=>zf4 _ _ _ _ ?_,f2,by omega,hP'⟩;simp only [zcU,za,zef,e,et,hb u,qa,qg,qe,qf,qd,f1 u,hw1,hz,qm];rw [qb hroom]
theorem zIk (m n:Nat) (o:List TWay) (ho:o.length<=40000): ∀(k i:Nat) (code:Int) (steps:List TStep) (ps:List Int),i+k=o.length->okS s.1 steps->okQ steps.length ps->m<steps.length->n<steps.length->
  ∃(b:Bool) (code':Int) (steps':List TStep) (ps':List Int),(∀u:Value,zf2 M (s.1,inputs,code,steps,u,ps,()) m n o o.length i=some (if b=true then .inl ((s.1,inputs,code',steps',u,ps',()),()) else .inr ((false,()),((s,inputs,(code',steps',u,()),ps',()),()))))∧Nxt s.1 steps steps' ps':=by
 intro k
 induction k with
 | zero=>
  intro i code steps ps hi hS hP hm hn;obtain rfl:i=o.length:=by omega
  refine ⟨true,code,steps,ps,fun u=>zlW _ _ _ _ _ _ ?_,hS,ql _,hP⟩;simp only [zfv];rw [qc (by simp)]
  rfl
 | succ k ih=>
  intro i code steps ps hi' hS hP hm hn;have h:i<o.length:=by omega
  have hlt:decide ((i:Int)<(o.length:Int))=true:=by simp;omega
  have g1:0<=(i:Int)∧(i:Int)<(o.length:Int):=by omega
  have e1:o[(i:Int).toNat]?=some o[i]:=by rw [qo,qu h]
  obtain ⟨b,code1,steps1,ps1,f1,N1,N2,N3⟩:=zEb s hg inputs hi hic code steps hS ps hP 2 [(m:Int),(n:Int)] [o[i].1,o[i].2.1,o[i].2.2.1,o[i].2.2.2.1,o[i].2.2.2.2.1] (by simp) (by simp) (fun k hk=>by
   rcases qz.1 hk with rfl | hk
   ·omega
   ·rw [qM.1 hk];omega)
  cases b with
  | false=>
   refine ⟨false,code1,steps1,ps1,fun u=>zlW _ _ _ _ _ _ ?_,N1,N2,N3⟩;simp only [zfv,za,hlt,qf,qb g1,e1,f1 u,qa]
   rfl
  | true=>
   obtain ⟨b,code2,steps2,ps2,f2,K1,K2,K3⟩:=ih (i+1) code1 steps1 ps1 (by omega) N1 N3 (by omega) (by omega);refine ⟨b,code2,steps2,ps2,fun u=>zlW _ _ _ _ _ _ ?_,K1,by omega,K3⟩;simp only [zfv,za,hlt,qf,qb g1,e1,f1 u,qa,qm,qg,qe];rw [zb (by omega)];exact f2 u
theorem zMs (code:Int) (steps:List TStep) (hS:okS s.1 steps) (ps:List Int) (hP:okQ steps.length ps) (m n:Nat) (hm:m<steps.length) (hn:n<steps.length):
  ∃(b:Bool) (code':Int) (steps':List TStep) (ps':List Int),(∀u:Value,ziD M (s,inputs,(code,steps,u,()),ps,()) m n=some ((b,()),((s,inputs,(code',steps',u,()),ps',()),())))∧Nxt s.1 steps steps' ps':=by
 obtain ⟨o,w2,w3⟩:=zLb s hg steps[m].2.2.2.1 steps[n].2.2.2.1 (hS.2 _ (qi hm)).1 (hS.2 _ (qi hn)).1;obtain ⟨b,code',steps',ps',f,N⟩:=zIk s hg inputs hi hic m n o w3 o.length 0 code steps ps (by omega) hS hP hm hn;rw [e0x] at f;have g1:0<=(m:Int)∧(m:Int)<(steps.length:Int):=by omega
 have e1:steps[(m:Int).toNat]?=some steps[m]:=by rw [qo,qu hm]
 have g2:0<=(n:Int)∧(n:Int)<(steps.length:Int):=by omega
 have e2:steps[(n:Int).toNat]?=some steps[n]:=by rw [qo,qu hn]
 refine ⟨b,code',steps',ps',fun u=>zzK _ _ _ ?_,N⟩;simp only [zo9,za,qb g1,qb g2,e1,e2,w2,f u,qa];cases b<;>rfl
end
def okA (n:Nat) (act:List Int):Prop:=act.length<=1000∧ ∀k∈act,0<=k∧k<(n:Int)
theorem okA.mono {n m:Nat} {act:List Int} (h:okA n act) (k:n<=m):okA m act:=⟨h.1,fun x hx=>by have:=h.2 x hx;omega⟩
section
variable (s : TSign) (hg : gS s.1 = true) (inputs : List (List TLit)) (hi : inputs.length <= 1048576) (hic : ∀ c ∈ inputs, clOK s.1 c = true)
include hg hi hic
theorem zIc (code:Int) (steps:List TStep) (hS:okS s.1 steps) (ps:List Int) (hP:okQ steps.length ps) (rule:Int) (par way:List Int) (hp:par.length<=20) (hw:way.length<=20) (hpr: ∀k∈par,0<=k∧k<(steps.length:Int)):
  ∃(b:Bool) (code':Int) (steps':List TStep) (ps':List Int),zjf M2 (s,inputs,(code,steps,(),()),ps,()) rule par way=some ((b,()),((s,inputs,(code',steps',(),()),ps',()),()))∧Nxt s.1 steps steps' ps':=by
 obtain ⟨b,code',steps',ps',f,N⟩:=zEb s hg inputs hi hic code steps hS ps hP rule par way hp hw hpr;exact ⟨b,code',steps',ps',zwW _ _ _ _ (fun u _=>f u),N⟩
theorem zHL (code:Int) (steps:List TStep) (hS:okS s.1 steps) (ps:List Int) (hP:okQ steps.length ps) (m n:Nat) (hm:m<steps.length) (hn:n<steps.length):
  ∃(b:Bool) (code':Int) (steps':List TStep) (ps':List Int),zlC M2 (s,inputs,(code,steps,(),()),ps,()) m n=some ((b,()),((s,inputs,(code',steps',(),()),ps',()),()))∧Nxt s.1 steps steps' ps':=by
 obtain ⟨b,code',steps',ps',f,N⟩:=zMs s hg inputs hi hic code steps hS ps hP m n hm hn;exact ⟨b,code',steps',ps',zzi _ _ _ (fun u _=>f u),N⟩
theorem zLG (act:List Int) (n:Nat) (o:List TWay) (lits:List Int) (hl:lits.length<=1000): ∀(k i:Nat) (code:Int) (steps:List TStep) (ps:List Int),i+k=lits.length->okS s.1 steps->okQ steps.length ps->n<steps.length->
  ∃(b:Bool) (code':Int) (steps':List TStep) (ps':List Int),zgg M2 (s.1,inputs,code,steps,act,ps,()) n o lits lits.length i=some (if b=true then .inl ((s.1,inputs,code',steps',act,ps',()),(n:Int),o,()) else .inr ((false,()),((s,inputs,(code',steps',act,()),ps',()),())))∧Nxt s.1 steps steps' ps':=by
 intro k
 induction k with
 | zero=>
  intro i code steps ps hi hS hP hn;obtain rfl:i=lits.length:=by omega
  refine ⟨true,code,steps,ps,zlJ _ _ _ _ _ _ ?_,hS,ql _,hP⟩;simp only [zfC];rw [qc (by simp)]
  rfl
 | succ k ih=>
  intro i code steps ps hi' hS hP hn;have h:i<lits.length:=by omega
  have hlt:decide ((i:Int)<(lits.length:Int))=true:=by simp;omega
  have g1:0<=(i:Int)∧(i:Int)<(lits.length:Int):=by omega
  have e1:lits[(i:Int).toNat]?=some lits[i]:=by rw [qo,qu h]
  obtain ⟨b,code1,steps1,ps1,f1,N1,N2,N3⟩:=zIc s hg inputs hi hic code steps hS ps hP 3 [(n:Int)] [lits[i]] (by simp) (by simp) (fun k hk=>by rw [qM.1 hk];omega)
  cases b with
  | false=>
   refine ⟨false,code1,steps1,ps1,zlJ _ _ _ _ _ _ ?_,N1,N2,N3⟩;simp only [zfC,za,hlt,qf,qb g1,e1,f1,qa]
   rfl
  | true=>
   obtain ⟨b,code2,steps2,ps2,f2,K1,K2,K3⟩:=ih (i+1) code1 steps1 ps1 (by omega) N1 N3 (by omega);refine ⟨b,code2,steps2,ps2,zlJ _ _ _ _ _ _ ?_,K1,by omega,K3⟩;simp only [zfC,za,hlt,qf,qb g1,e1,f1,qa,qm,qg,qe];rw [zb (by omega)];exact f2
theorem zJ1 (act:List Int) (n:Nat) (o:List TWay) (hl:o.length<=1000): ∀(k i:Nat) (code:Int) (steps:List TStep) (ps:List Int),i+k=o.length->okS s.1 steps->okQ steps.length ps->n<steps.length->
  ∃(b:Bool) (code':Int) (steps':List TStep) (ps':List Int),zfb M2 (s.1,inputs,code,steps,act,ps,()) n o o.length i=some (if b=true then .inl ((s.1,inputs,code',steps',act,ps',()),(n:Int),()) else .inr ((false,()),((s,inputs,(code',steps',act,()),ps',()),())))∧Nxt s.1 steps steps' ps':=by
 intro k
 induction k with
 | zero=>
  intro i code steps ps hi hS hP hn;obtain rfl:i=o.length:=by omega
  refine ⟨true,code,steps,ps,zk8 _ _ _ _ _ ?_,hS,ql _,hP⟩;simp only [zeQ];rw [qc (by simp)]
  rfl
 | succ k ih=>
  intro i code steps ps hi' hS hP hn;have h:i<o.length:=by omega
  have hlt:decide ((i:Int)<(o.length:Int))=true:=by simp;omega
  have g1:0<=(i:Int)∧(i:Int)<(o.length:Int):=by omega
  have e1:o[(i:Int).toNat]?=some o[i]:=by rw [qo,qu h]
  obtain ⟨b,code1,steps1,ps1,f1,N1,N2,N3⟩:=zIc s hg inputs hi hic code steps hS ps hP 4 [(n:Int)] [o[i].1,o[i].2.1,o[i].2.2.1,o[i].2.2.2.1] (by simp) (by simp) (fun k hk=>by rw [qM.1 hk];omega)
  cases b with
  | false=>
   refine ⟨false,code1,steps1,ps1,zk8 _ _ _ _ _ ?_,N1,N2,N3⟩;simp only [zeQ,za,hlt,qf,qb g1,e1,f1,qa]
   rfl
  | true=>
   obtain ⟨b,code2,steps2,ps2,f2,K1,K2,K3⟩:=ih (i+1) code1 steps1 ps1 (by omega) N1 N3 (by omega);refine ⟨b,code2,steps2,ps2,zk8 _ _ _ _ _ ?_,K1,by omega,K3⟩;simp only [zeQ,za,hlt,qf,qb g1,e1,f1,qa,qm,qg,qe];rw [zb (by omega)];exact f2
theorem zJp (act:List Int) (n:Nat): ∀(k i:Nat) (code:Int) (steps:List TStep) (ps:List Int),i+k=act.length->okS s.1 steps->okQ steps.length ps->okA steps.length act->n<steps.length->
  ∃(b:Bool) (code':Int) (steps':List TStep) (ps':List Int),zdu M2 (s.1,inputs,code,steps,act,ps,()) n act.length i=some (if b=true then .inl ((s.1,inputs,code',steps',act,ps',()),()) else .inr ((false,()),((s,inputs,(code',steps',act,()),ps',()),())))∧Nxt s.1 steps steps' ps':=by
 intro k
 induction k with
 | zero=>
  intro i code steps ps hi hS hP hA hn;obtain rfl:i=act.length:=by omega
  refine ⟨true,code,steps,ps,zeK _ _ _ _ ?_,hS,ql _,hP⟩;simp only [zco];rw [qc (by simp)]
  rfl
 | succ k ih=>
  intro i code steps ps hi' hS hP hA hn;have hA1:=hA.1;have h:i<act.length:=by omega
  have hlt:decide ((i:Int)<(act.length:Int))=true:=by simp;omega
  have g1:0<=(i:Int)∧(i:Int)<(act.length:Int):=by omega
  obtain ⟨m,em,hm⟩:=zmO (hA.2 _ (qi h)).1 (hA.2 _ (qi h)).2;have e1:act[(i:Int).toNat]?=some (m:Int):=by rw [qo,qu h,em]
  obtain ⟨b,code1,steps1,ps1,f1,N1,N2,N3⟩:=zHL s hg inputs hi hic code steps hS ps hP m n hm hn
  cases b with
  | false=>
   refine ⟨false,code1,steps1,ps1,zeK _ _ _ _ ?_,N1,N2,N3⟩;simp only [zco,za,hlt,qf,qb g1,e1,f1,qa]
   rfl
  | true=>
   cases hmn:((m:Int) !=(n:Int)) with
   | false=>
    obtain ⟨b,code2,steps2,ps2,f2,K1,K2,K3⟩:=ih (i+1) code1 steps1 ps1 (by omega) N1 N3 (hA.mono N2) (by omega);refine ⟨b,code2,steps2,ps2,zeK _ _ _ _ ?_,K1,by omega,K3⟩;simp only [zco,za,hlt,qf,qb g1,e1,f1,hmn,qa,qm,qg,qe];rw [zb (by omega)]
    exact f2
   | true=>
    obtain ⟨b,code3,steps3,ps3,f3,L1,L2,L3⟩:=zHL s hg inputs hi hic code1 steps1 N1 ps1 N3 n m (by omega) (by omega)
    cases b with
    | false=>
     refine ⟨false,code3,steps3,ps3,zeK _ _ _ _ ?_,L1,by omega,L3⟩;simp only [zco,za,hlt,qf,qb g1,e1,f1,f3,hmn,qa,qm,qg,qe]
     rfl
    | true=>
     obtain ⟨b,code2,steps2,ps2,f2,K1,K2,K3⟩:=ih (i+1) code3 steps3 ps3 (by omega) L1 L3 (hA.mono (by omega)) (by omega);refine ⟨b,code2,steps2,ps2,zeK _ _ _ _ ?_,K1,by omega,K3⟩;simp only [zco,za,hlt,qf,qb g1,e1,f1,f3,hmn,qa,qm,qg,qe];rw [zb (by omega)];exact f2
theorem zMy (code:Int) (steps:List TStep) (hS:okS s.1 steps) (act ps:List Int) (hP:okQ steps.length ps) (hA:act.length<=999∧ ∀k∈act,0<=k∧k<(steps.length:Int)) (n:Nat) (hn:n<steps.length):
  ∃(b:Bool) (code':Int) (steps':List TStep) (act' ps':List Int),zlm M2 (s,inputs,(code,steps,act,()),ps,()) n=some ((b,()),((s,inputs,(code',steps',act',()),ps',()),()))∧Nxt s.1 steps steps' ps'∧act'.length<=act.length+1∧ ∀k∈act',0<=k∧k<(steps'.length:Int):=by
 have g1:0<=(n:Int)∧(n:Int)<(steps.length:Int):=by omega
 have e1:steps[(n:Int).toNat]?=some steps[n]:=by rw [qo,qu hn]
 obtain ⟨lits,o,w,w1,w2⟩:=zGF s hg steps[n].2.2.2.1 (hS.2 _ (qi hn)).1;have w':zkO M2 s steps[n].2.2.2.1=some ((lits,o,()),()):=upC w;obtain ⟨b1,code1,steps1,ps1,f1,N1,N2,N3⟩:=zLG s hg inputs hi hic act n o lits (by omega) lits.length 0 code steps ps (by omega) hS hP hn;rw [e0x] at f1
 cases b1 with
 | false=>
  refine ⟨false,code1,steps1,act,ps1,zoV _ _ ?_,⟨N1,N2,N3⟩,by omega,fun k hk=>by have:=hA.2 k hk;omega⟩;simp only [ziO,za,qb g1,e1,w',f1,qa]
  rfl
 | true=>
 obtain ⟨b2,code2,steps2,ps2,f2,K1,K2,K3⟩:=zJ1 s hg inputs hi hic act n o (by omega) o.length 0 code1 steps1 ps1 (by omega) N1 N3 (by omega);rw [e0x] at f2
 cases b2 with
 | false=>
  refine ⟨false,code2,steps2,act,ps2,zoV _ _ ?_,⟨K1,by omega,K3⟩,by omega,fun k hk=>by have:=hA.2 k hk;omega⟩;simp only [ziO,za,qb g1,e1,w',f1,f2,qa,qd,qf]
  rfl
 | true=>
 have hA':okA steps2.length (act++ [(n:Int)]):=⟨by simp;omega,fun k hk=>by
  rcases qr.1 hk with hk | hk
  ·have:=hA.2 k hk;omega
  ·rw [qM.1 hk];omega⟩
 obtain ⟨b3,code3,steps3,ps3,f3,L1,L2,L3⟩:=zJp s hg inputs hi hic (act++ [(n:Int)]) n (act++ [(n:Int)]).length 0 code2 steps2 ps2 (by omega) K1 K3 hA' (by omega);rw [e0x] at f3;have hroom:(List.length act+List.length ([(n:Int)]:List Int))*8<=140737488355328:=by simp;omega
 refine ⟨b3,code3,steps3,act++ [(n:Int)],ps3,zoV _ _ ?_,⟨L1,by omega,L3⟩,by simp,(hA'.mono L2).2⟩;simp only [ziO,za,qb g1,e1,w',f1,f2,qa,qd,qf];rw [qb hroom,f3];cases b3<;>rfl
omit hi hic in
theorem zHO (code:Int) (steps:List TStep) (hS:okS s.1 steps) (act ps:List Int) (n:Int) (us:List Int) (hu:us.length<=10) (hux: ∀k∈us,(0<=k∧k<(steps.length:Int))∧isU (gtC steps k)=true): ∀(k i:Nat) (lits:List TLit),i+k=us.length->lits.length<=i->(∀x∈lits,litOK s.1 x=true)->
  ∃lits':List TLit,zdk M2 (s.1,inputs,code,steps,act,ps,()) n us lits us.length i=some (.inl ((s.1,inputs,code,steps,act,ps,()),n,us,lits',()))∧lits'.length<=10∧ ∀x∈lits',litOK s.1 x=true:=by
 have _:=hg;intro k
 induction k with
 | zero=>
  intro i lits hi hl hx;obtain rfl:i=us.length:=by omega
  refine ⟨lits,zm6 _ _ _ _ _ _ ?_,by omega,hx⟩;simp only [zeS]
  rw [qc (by simp)]
 | succ k ih=>
  intro i lits hi hl hx;have h1:=hS.1;have h:i<us.length:=by omega
  have hlt:decide ((i:Int)<(us.length:Int))=true:=by simp;omega
  have g1:0<=(i:Int)∧(i:Int)<(us.length:Int):=by omega
  obtain ⟨⟨k0,k1⟩,hU⟩:=hux _ (qi h);obtain ⟨m,em,hm⟩:=zmO k0 k1;rw [em] at hU;rw [zw0 hm] at hU;have e1:us[(i:Int).toNat]?=some (m:Int):=by rw [qo,qu h,em]
  have g2:0<=(m:Int)∧(m:Int)<(steps.length:Int):=by omega
  have e2:steps[(m:Int).toNat]?=some steps[m]:=by rw [qo,qu hm]
  have eU:=zsz hU;have hc:=(zm.1 (hS.2 _ (qi hm)).1).2 (hdL steps[m].2.2.2.1) (by rw [eU];exact qM.2 rfl);have hx0:idx steps[m].2.2.2.1 0=some (hdL steps[m].2.2.2.1):=by rw [eU];rfl
  obtain ⟨lits',e3,e4,e5⟩:=ih (i+1) (lits++ [hdL steps[m].2.2.2.1]) (by omega) (by simp;omega) (fun x h'=>by
   rcases qr.1 h' with h' | h'
   ·exact hx x h'
   ·rw [qM.1 h'];exact hc)
  refine ⟨lits',zm6 _ _ _ _ _ _ ?_,e4,e5⟩;simp only [zeS,hlt,qf,qb g1,qb g2,e1,e2,hx0,qa,zg];rw [qb (by simp;omega),zb (by omega)];exact e3
theorem zIn (code:Int) (steps:List TStep) (hS:okS s.1 steps) (act ps:List Int) (hA:okA steps.length act) (n:Nat) (hn:n<steps.length):
  ∃(r:Int) (code':Int) (steps':List TStep),zhS M2 (s,inputs,(code,steps,act,()),ps,()) n=some ((r,()),((s,inputs,(code',steps',act,()),ps,()),()))∧okS s.1 steps'∧steps.length<=steps'.length∧(r<0∨ ∃m:Nat,r=(m:Int)∧m<steps'.length):=by
 have h1:=hS.1;have hA1:=hA.1;obtain ⟨us,u0,u2,u4⟩:=zJg s steps (fun x hx=>(hS.2 x hx).1) act (by omega) hA.2;have u1:zha M2 steps act=some ((us,()),()):=upC u0;have u3: ∀k∈us,(0<=k∧k<(steps.length:Int))∧isU (gtC steps k)=true:=fun k hk=>⟨hA.2 k (u4 k hk).1,(u4 k hk).2⟩
 obtain ⟨lits,l1,l2,l3⟩:=zHO s hg inputs code steps hS act ps n us u2 u3 us.length 0 [] (by omega) (by simp) (by simp);rw [e0x] at l1;have g1:0<=(n:Int)∧(n:Int)<(steps.length:Int):=by omega
 have e1:steps[(n:Int).toNat]?=some steps[n]:=by rw [qo,qu hn]
 obtain ⟨C,z1,z2,_,_,_,r2⟩:=zza s lits hg (by omega) l3 steps[n].2.2.2.1 (hS.2 _ (qi hn)).1;have r3:zgn M2 s steps[n].2.2.2.1 lits=some ((C,z2,()),()):=upC r2
 cases hz:(z2==0) with
 | true=>
  refine ⟨n,code,steps,zlR _ _ ?_,hS,ql _,.inr ⟨n,rfl,hn⟩⟩
  simp only [zfG,za,u1,l1,qb g1,e1,r3,hz,qa,qd,qf]
 | false=>
  have hroom:(List.length ([(n:Int)]:List Int)+List.length us)*8<=140737488355328:=by simp;omega
  obtain ⟨x,ok,f,hx⟩:=zC5 s hg inputs hi hic steps hS 5 ([(n:Int)]++us) [] (by simp;omega) (by simp) (fun k hk=>by
   rcases qr.1 hk with hk | hk
   ·rw [qM.1 hk];omega
   ·exact (u3 k hk).1)
  have f':zg2 M2 s inputs steps 5 ([(n:Int)]++us) []=some ((x,ok,()),(steps,())):=upC f;obtain ⟨b,code',steps',p1,p2,p3,p4⟩:=zKs s inputs code steps hS ps x hx;have p5:zoZ M2 (s,inputs,(code,steps,(),()),ps,()) x=some ((b,()),((s,inputs,(code',steps',(),()),ps,()),())):=zyE _ _ (fun u _=>p1 u)
  cases b with
  | false=>
   obtain rfl:=p4 rfl;refine ⟨-1,code',steps',zlR _ _ ?_,hS,ql _,.inl (by omega)⟩;simp only [zfG,za,zef,u1,l1,qb g1,e1,r3,hz,qb hroom,f',p5,qa,qd,qf,qg,qe]
   rfl
  | true=>
   obtain rfl:=p3 rfl;have hl:(steps++ [x]).length=steps.length+1:=by simp
   have hw1:IntKind.i64.wrap (((steps++ [x]).length:Int)-1)=(steps.length:Int):=by rw [w64 (by rw [hl];omega) (by rw [hl];omega),hl];omega
   refine ⟨steps.length,code',steps++ [x],zlR _ _ ?_,p2,by omega,.inr ⟨steps.length,rfl,by omega⟩⟩;simp only [zfG,za,zef,u1,l1,qb g1,e1,r3,hz,qb hroom,f',p5,hw1,qa,qd,qf,qg,qe,qm]
end
section
variable (s : TSign) (hg : gS s.1 = true) (inputs : List (List TLit)) (hi : inputs.length <= 1048576) (hic : ∀ c ∈ inputs, clOK s.1 c = true)
include hg
theorem zFM (code:Int) (steps:List TStep) (hS:okS s.1 steps) (act ps:List Int) (hA:okA steps.length act) (n:Int) (c:List TLit): ∀(k i:Nat) (o:List (List TLit)),i+k=act.length->o.length<=i->(∀x∈o,clOK s.1 x=true)->
  ∃o':List (List TLit),zdE M2 (s.1,inputs,code,steps,act,ps,()) n c o act.length i=some (.inl ((s.1,inputs,code,steps,act,ps,()),n,c,o',()))∧o'.length<=1000∧ ∀x∈o',clOK s.1 x=true:=by
 have _:=hg;intro k
 induction k with
 | zero=>
  intro i o hi hl hx;obtain rfl:i=act.length:=by omega
  have:=hA.1;refine ⟨o,znL _ _ _ _ _ _ ?_,by omega,hx⟩;simp only [zfJ]
  rw [qc (by simp)]
 | succ k ih=>
  intro i o hi hl hx;have h1:=hS.1;have hA1:=hA.1;have h:i<act.length:=by omega
  have hlt:decide ((i:Int)<(act.length:Int))=true:=by simp;omega
  have g1:0<=(i:Int)∧(i:Int)<(act.length:Int):=by omega
  obtain ⟨m,em,hm⟩:=zmO (hA.2 _ (qi h)).1 (hA.2 _ (qi h)).2;have e1:act[(i:Int).toNat]?=some (m:Int):=by rw [qo,qu h,em]
  have g2:0<=(m:Int)∧(m:Int)<(steps.length:Int):=by omega
  have e2:steps[(m:Int).toNat]?=some steps[m]:=by rw [qo,qu hm]
  obtain ⟨o',f1,f2,f3⟩:=ih (i+1) (o++ [steps[m].2.2.2.1]) (by omega) (by simp;omega) (fun x h'=>by
   rcases qr.1 h' with h' | h'
   ·exact hx x h'
   ·rw [qM.1 h'];exact (hS.2 _ (qi hm)).1)
  refine ⟨o',znL _ _ _ _ _ _ ?_,f2,f3⟩;simp only [zfJ,hlt,qf,qb g1,qb g2,e1,e2,qa];rw [qb (by simp;omega),zb (by omega)];exact f1
include hi hic
theorem zLr (code:Int) (steps:List TStep) (hS:okS s.1 steps) (act ps:List Int) (hP:okQ steps.length ps) (hA:act.length<=999∧ ∀k∈act,0<=k∧k<(steps.length:Int)) (n:Nat) (hn:n<steps.length):
  ∃(b:Bool) (code':Int) (steps':List TStep) (act' ps':List Int),zjW M2 (s,inputs,(code,steps,act,()),ps,()) n=some ((b,()),((s,inputs,(code',steps',act',()),ps',()),()))∧Nxt s.1 steps steps' ps'∧act'.length<=act.length+1∧ ∀k∈act',0<=k∧k<(steps'.length:Int):=by
 have hA':okA steps.length act:=⟨by omega,hA.2⟩;obtain ⟨r,code1,steps1,f,k1,k2,k3⟩:=zIn s hg inputs hi hic code steps hS act ps hA' n hn;rcases k3 with hr | ⟨m,rfl,hm⟩
 ·refine ⟨false,code1,steps1,act,ps,zj8 _ _ ?_,⟨k1,k2,hP.mono k2⟩,by omega,fun k hk=>by have:=hA.2 k hk;omega⟩;simp only [zew,za,f,qp hr,qa];rfl
 ·have hr:decide ((m:Int)<0)=false:=by simp
  have g2:0<=(m:Int)∧(m:Int)<(steps1.length:Int):=by omega
  have e2:steps1[(m:Int).toNat]?=some steps1[m]:=by rw [qo,qu hm]
  have hA1:=hA'.mono k2;have hm1:=(k1.2 _ (qi hm)).1
  cases hz:((steps1[m].2.2.2.1.length:Int)==0) with
  | true=>
   refine ⟨false,1,steps1,act,ps,zj8 _ _ ?_,⟨k1,k2,hP.mono k2⟩,by omega,hA1.2⟩
   simp only [zew,za,f,hr,qb g2,e2,hz,qa,qg,qe,qf]
  | false=>
   obtain ⟨o,o1,o2,o3⟩:=zFM s hg inputs code1 steps1 k1 act ps hA1 m steps1[m].2.2.2.1 act.length 0 [] (by omega) (by simp) (by simp);rw [e0x] at o1;obtain ⟨rb,R0⟩:=zL8 s hg steps1[m].2.2.2.1 hm1 o (by omega) o3;have R:zdK M2 s steps1[m].2.2.2.1 o=some ((rb,()),()):=upC R0
   cases rb with
   | true=>
    refine ⟨true,code1,steps1,act,ps,zj8 _ _ ?_,⟨k1,k2,hP.mono k2⟩,by omega,hA1.2⟩
    simp only [zew,za,f,hr,qb g2,e2,hz,o1,R,qa,qg,qe,qf,qd]
   | false=>
    obtain ⟨b,code2,steps2,act2,ps2,a1,⟨a2,a3,a4⟩,a5,a6⟩:=zMy s hg inputs hi hic code1 steps1 k1 act ps (hP.mono k2) ⟨by omega,hA1.2⟩ m hm;refine ⟨b,code2,steps2,act2,ps2,zj8 _ _ ?_,⟨a2,by omega,a4⟩,a5,a6⟩;simp only [zew,za,f,hr,qb g2,e2,hz,o1,R,a1,qa,qg,qe,qf,qd]
omit hg hi hic in
theorem zEv (n:Int) (l:List Int) (hl:l.length<=1000): ∀(k i:Nat) (o:List Int),i+k=l.length->o.length<=i->(∀x∈o,x∈l)->
  ∃o':List Int,zju M n o l l.length i=some (.inl (o',()))∧o'.length<=l.length∧ ∀x∈o',x∈l:=by
 intro k
 induction k with
 | zero=>
  intro i o hi ho hx;obtain rfl:i=l.length:=by omega
  refine ⟨o,zo1 _ _ _ _ _ ?_,by omega,hx⟩;simp only [ziy]
  rw [qc (by simp)]
 | succ k ih=>
  intro i o hi ho hx;have h:i<l.length:=by omega
  have hlt:decide ((i:Int)<(l.length:Int))=true:=by simp;omega
  cases hn:(l[i] !=n) with
  | true=>
   obtain ⟨o',f1,f2,f3⟩:=ih (i+1) (o++ [l[i]]) (by omega) (by simp;omega) (fun x h'=>by
    rcases qr.1 h' with h' | h'
    ·exact hx x h'
    ·rw [qM.1 h'];exact qi h)
   refine ⟨o',zo1 _ _ _ _ _ ?_,f2,f3⟩;simp only [ziy,hlt,qf,zd h,qa,hn];rw [qb (by simp;omega)];simp only [qa,qd];rw [zb (by omega)]
   exact f1
  | false=>
   obtain ⟨o',f1,f2,f3⟩:=ih (i+1) o (by omega) (by omega) hx;refine ⟨o',zo1 _ _ _ _ _ ?_,f2,f3⟩;simp only [ziy,hlt,qf,zd h,qa,hn,qg,qe,qd];rw [zb (by omega)];exact f1
omit hg hi hic in
theorem zJT (n:Int) (l:List Int) (hl:l.length<=1000): ∃o':List Int,zmW M l n=some ((o',()),())∧o'.length<=l.length∧ ∀x∈o',x∈l:=by
 obtain ⟨o',f1,f2,f3⟩:=zEv n l hl l.length 0 [] (by omega) (by simp) (by simp);rw [e0x] at f1;refine ⟨o',zDT _ _ ?_,f2,f3⟩;simp only [ztP,f1,qa,qd]
def okR (a:List Int) (r:Int×List TStep×List Int×Unit):Prop:=okS a r.2.1∧ ∀k∈r.2.2.1,0<=k∧k<(r.2.1.length:Int)
theorem zJn (fuel:Int) (hf:fuel<=40) (z:Int×List TStep×List Int×Unit): ∀(k n:Nat) (code:Int) (steps:List TStep) (act ps:List Int),fuel+1<=(n:Int)+k->n<=100->act.length+1<=n->okS s.1 steps->okQ steps.length ps->(∀k∈act,0<=k∧k<(steps.length:Int))->
  ∃r,ziM M2 fuel z (s.1,inputs,code,steps,act,ps,()) n=some (.inr ((r,()),()))∧okR s.1 r:=by
 intro k
 induction k with
 | zero=>
  intro n code steps act ps hn hn2 ha hS hP hA
  cases hz:((ps.length:Int)==0) with
  | true=>
   refine ⟨(2,steps,act,()),zfF _ _ _ _ ?_,hS,hA⟩
   simp only [zcO,hz,qf]
  | false=>
   refine ⟨(3,steps,act,()),zfF _ _ _ _ ?_,hS,hA⟩;simp only [zcO,hz,qg,qe]
   rw [qb (by simp;omega)]
 | succ k ih=>
  intro n code steps act ps hn hn2 ha hS hP hA;have h1:=hS.1;have hP1:=hP.1
  cases hz:((ps.length:Int)==0) with
  | true=>
   refine ⟨(2,steps,act,()),zfF _ _ _ _ ?_,hS,hA⟩
   simp only [zcO,hz,qf]
  | false=>
  have hp0:0<ps.length:=by
   have: ¬(ps.length:Int)=0:=by simpa using hz
   omega
  by_cases hfu:(n:Int)>fuel
  ·refine ⟨(3,steps,act,()),zfF _ _ _ _ ?_,hS,hA⟩;simp only [zcO,hz,qp hfu,qg,qe,qf]
  ·obtain ⟨pj,hj,ch0⟩:=zHR s steps (fun x hx=>(hS.2 x hx).1) ps (by omega) hP.2 (n:Int) hp0;have ch:zgi M2 steps ps n=some ((pj,()),()):=upC ch0;obtain ⟨ps1,d0,d1,d2⟩:=zJT pj ps (by omega);have d:zmW M2 ps pj=some ((ps1,()),()):=upC d0;obtain ⟨m,em,hm⟩:=zmO (hP.2 _ hj).1 (hP.2 _ hj).2;rw [em] at ch d;have hP2:okQ steps.length ps1:=⟨by omega,fun x hx=>hP.2 x (d2 x hx)⟩;obtain ⟨b,code1,steps1,act1,ps2,a1,⟨a2,a3,a4⟩,a5,a6⟩:=zLr s hg inputs hi hic code steps hS act ps1 hP2 ⟨by omega,hA⟩ m hm;have hdf:decide ((n:Int)>fuel)=false:=qA hfu
   cases b with
   | false=>
    refine ⟨(code1,steps1,act1,()),zfF _ _ _ _ ?_,a2,a6⟩;simp only [zcO,za,hz,hdf,ch,d,a1,qa,qg,qe]
    rfl
   | true=>
    obtain ⟨r,r1,r2⟩:=ih (n+1) code1 steps1 act1 ps2 (by omega) (by omega) (by omega) a2 a4 a6;refine ⟨r,zfF _ _ _ _ ?_,r2⟩;simp only [zcO,za,hz,hdf,ch,d,a1,qa,qg,qe,qm];rw [zb (by omega)];exact r1
theorem zIg (k:Int): ∃(x:TStep) (ok:Bool),zeU M s inputs [] 1 [] [k]=some ((x,ok,()),())∧okX s.1 x:=by
 obtain ⟨ok,C1,C,_,e,hC⟩:=zHI s hg inputs hi hic [] (by simp) (by simp) [] [k] (by simp) (by simp) (by simp) 1
 cases ok with
 | false=>
  refine ⟨(0,[],[],[],()),false,zmZ _ _ _ _ _ _ ?_,by simp [clOK],by simp,by simp⟩;simp only [zit,za,e,qa]
  rfl
 | true=>
  obtain ⟨rfl,h2,_⟩:=hC rfl;refine ⟨(1,[],[k],C1,()),true,zmZ _ _ _ _ _ _ ?_,h2,by simp,by simp⟩;simp only [zit,za,e,qa,ziU [] (by simp),ziU [k] (by simp)];rfl
theorem zLX (fuel:Int) (z:Int×List TStep×List Int×Unit) (h12:inputs.length<=12): ∀(k i:Nat) (steps:List TStep) (ps:List Int),i+k=inputs.length->steps.length=i->okS s.1 steps->okQ i ps->
  ∃(steps':List TStep) (ps':List Int),ziE M2 inputs fuel s z (s.1,inputs,0,steps,[],ps,()) inputs.length i=some (.inl (fuel,z,(s.1,inputs,0,steps',[],ps',()),()))∧okS s.1 steps'∧okQ steps'.length ps':=by
 intro k
 induction k with
 | zero=>
  intro i steps ps hi' hl hS hP;obtain rfl:i=inputs.length:=by omega
  refine ⟨steps,ps,zta _ _ _ _ _ _ _ ?_,hS,by rw [hl];exact hP⟩;simp only [zks]
  rw [qc (by simp)]
 | succ k ih=>
  intro i steps ps hi' hl hS hP;have hP1:=hP.1;have hlt:decide ((i:Int)<(inputs.length:Int))=true:=by simp;omega
  obtain ⟨x,ok,e0,hx⟩:=zIg s hg inputs hi hic i;have e:zeU M2 s inputs [] 1 [] [(i:Int)]=some ((x,ok,()),()):=upC e0
  obtain ⟨steps',ps',f1,f2,f3⟩:=ih (i+1) (steps++ [x]) (ps++ [(i:Int)]) (by omega) (by simp;omega) (hS.push (by omega) hx) ⟨by simp;omega,fun y hy=>by
   rcases qr.1 hy with hy | hy
   ·have:=hP.2 y hy;omega
   ·rw [qM.1 hy];omega⟩
  refine ⟨steps',ps',zta _ _ _ _ _ _ _ ?_,f2,f3⟩;simp only [zks,za,zef,hlt,qf,e,qa];rw [qb (by simp;omega),qb (by simp;omega),zb (by omega)];exact f1
theorem zHy (fuel:Int) (hf:fuel<=40) (h12:inputs.length<=12): ∃r,zoy M2 s inputs fuel=some ((r,()),())∧okR s.1 r:=by
 obtain ⟨steps,ps,f1,f2,f3⟩:=zLX s hg inputs hi hic fuel (0,[],[],()) h12 inputs.length 0 [] [] (by omega) rfl ⟨by simp,by simp⟩ ⟨by simp,by simp⟩;rw [e0x] at f1;obtain ⟨r,r1,r2⟩:=zJn s hg inputs hi hic fuel hf (0,[],[],()) 60 1 0 steps [] ps (by omega) (by omega) (by simp) f2 f3 (by simp);rw [show ((1:Nat):Int)=1 from rfl] at r1;refine ⟨r,zCs _ _ _ ?_,r2⟩;simp only [zsH,za,f1,r1,qa,qd,qF]
end
theorem zKS (s:TSign) (hs:s.1.length<=1048576) (inputs:List (List TLit)) (hi:inputs.length<=1048576) (hix: ∀c∈inputs,smC c) (fuel:Int):
  ∃(r:Int×List TStep×List Int×Unit) (ok:Bool),zq1 M2 s inputs fuel=some ((r,ok,()),())∧okR s.1 r∧(ok=true->gS s.1=true∧inOK s.1 inputs=true):=by
 have L:zhR M2 s inputs=some ((gS s.1&&inOK s.1 inputs,()),()):=upC (zBB s hs inputs hi hix);have I:z6 M2 fuel 0 40=some ((decide (0<=fuel)&&decide (fuel<=40),()),()):=upC (zfw fuel 0 40)
 cases h1:(gS s.1&&inOK s.1 inputs) with
 | false=>
  refine ⟨(0,[],[],()),false,zu9 _ _ _ ?_,⟨⟨by simp,by simp⟩,by simp⟩,fun h=>by cases h⟩;simp only [znW,za,L,h1,qa]
  rfl
 | true=>
 cases h2:(decide (0<=fuel)&&decide (fuel<=40)) with
 | false=>
  refine ⟨(0,[],[],()),false,zu9 _ _ _ ?_,⟨⟨by simp,by simp⟩,by simp⟩,fun h=>by cases h⟩;simp only [znW,za,L,h1,I,h2,qa]
  rfl
 | true=>
  simp only [qq,qt] at h1 h2;obtain ⟨hg,hin⟩:=h1;have hin':=hin;simp only [inOK,qq,qt,List.all_eq_true] at hin';obtain ⟨r,r1,r2⟩:=zHy s hg inputs hi hin'.2 fuel h2.2 hin'.1;refine ⟨r,true,zu9 _ _ _ ?_,r2,fun _=>⟨hg,hin⟩⟩;simp only [znW,za,L,hg,hin,I,qp h2.1,qp h2.2,r1,qa];rfl
def stD (x:TStep):Prop:=x.2.1.length<=20∧x.2.2.1.length<=20∧x.2.2.2.1.length<=8∧ ∀l∈x.2.2.2.1,l.2.1.length<=100∧l.2.2.1.length<=100
theorem okX.stD {a:List Int} {x:TStep} (h:okX a x):stD x:=by
 obtain ⟨h1,h2,h3⟩:=h;obtain ⟨c1,c2⟩:=zm.1 h1;exact ⟨h2,h3,c1,fun l hl=>by have:=zbt (c2 l hl);omega⟩
theorem stD.smP {x:TStep} (h:stD x):smP x:=⟨by have:=h.1;omega,by have:=h.2.1;omega,by have:=h.2.2.1;omega,fun l hl=>by have:=h.2.2.2 l hl;exact ⟨by omega,by omega⟩⟩
section
variable {code : List Int} (hb : isBytes code)
include hb
def drD (r:(TSign×List (List TLit)×List TStep×Unit)):Prop:=SgD r.1.1∧r.2.1.length<=10∧(∀y∈r.2.1,smC y)∧r.2.2.1.length<=200∧ ∀x∈r.2.2.1,stD x
end
section
variable {code : List Int} (hb : isBytes code)
include hb
theorem zLZ {a:List Int} (ha:SgD a) {j:Int} (hj:j<=5000) {c:TCur} (hc:Cu code j c):Okk (fun r=>r.1.1.length<=4∧(∀y∈r.1.1,smC y)∧Cu code (j+85000) r.2.1) (zdZ M c (a,()) 2):=by
 refine Okk.lift ?_ (zrd c (a,()) 2);simp only [zi3,zh];rw [w64 (x:=2+1) (by omega) (by omega)];refine Okk.bind (zck hb hc _ (by omega) (by omega)) ?_
 rintro ⟨⟨x,⟨⟩⟩,⟨c1,⟨⟩⟩⟩ ⟨x1,x2,g⟩
 simp only [zh] at x1 x2 g ⊢;obtain ⟨n,rfl⟩: ∃n:Nat,x=(n:Int):=⟨x.toNat,by omega⟩;refine Okk.bind (zBJ hb ha n (j+2) c1 [] (by simp;omega) (by simp) (by omega) g) ?_
 rintro _ ⟨c',o',rfl,q1,q2,q3⟩
 exact .pure ⟨q1,q2,q3.mono (by omega)⟩
end
section
variable {code : List Int} (hb : isBytes code)
include hb
theorem zKt {j:Int} (hj:j<=4000) {c:TCur} (hc:Cu code j c):Okk (fun r=>drD r.1∧Cu code (j+100000) r.2.1) (zjI M2 c):=by
 refine Okk.lift ?_ (zA0 c);simp only [zqk,zh];refine Okk.bind (Okk.lift (zHF hb hj hc) (fun h=>upC h)) ?_
 rintro ⟨⟨⟨s,⟨⟩⟩,inp,⟨⟩⟩,⟨c1,⟨⟩⟩⟩ ⟨s1,i1,i2,h1⟩
 simp only [zh] at s1 i1 i2 h1 ⊢;refine Okk.bind (Okk.lift (zw1 hb h1 [2,4,6,8] (by omega) (by simp) (by simp)) (fun h=>upC h)) ?_
 rintro ⟨⟨f,⟨⟩⟩,⟨c2,⟨⟩⟩⟩ ⟨_,h2⟩
 simp only [zh] at h2 ⊢;obtain ⟨⟨r0,st,ac,⟨⟩⟩,ok,p1,⟨⟨p2,p3⟩,_⟩,_⟩:=zKS (s,()) (by have:=s1.1;simp only;omega) inp (by omega) i2 f;simp only at p2 p3;rw [p1];simp only [qa];have hx: ∀x∈st,stD x:=fun x h=>(p3 x h).stD
 refine Okk.bind (P:=fun y=> ∃(c':TCur) (l:List TStep),y= .inl (c',([],()),(s,()),inp,l,())∧l.length<=200∧(∀x∈l,stD x)∧Cu code (j+100000) c') ?_ ?_
 ·refine Okk.ite (fun hl=>?_) fun _=> .pure ⟨c2,st,rfl,p2,hx,h2.mono (by omega)⟩
  have hl':30<st.length:=by have:=of_decide_eq_true hl;omega
  refine Okk.iteT (by omega) (.pure ⟨c2,_,rfl,by simp;omega,fun x h=>hx x ?_,h2.mono (by omega)⟩);exact List.mem_of_mem_take (List.mem_of_mem_drop h)
 ·rintro _ ⟨c',l,rfl,l1,l2,l3⟩
  exact .pure ⟨⟨s1,i1,i2,l1,l2⟩,l3⟩
theorem zBT:Okk (fun r=>SgD r.1.1.1∧r.1.2.1.length<=10∧(∀y∈r.1.2.1,smC y)∧(r.1.2.2.1.length<=200∧ ∀x∈r.1.2.2.1,stD x)∧r.1.2.2.2.2.1.length<=20∧r.1.2.2.2.2.2.1.length<=20) (zj6 M2 code):=by
 refine Okk.lift ?_ (zyh code);simp only [znc];refine Okk.bind (zKt hb (j:=0) (by omega) ⟨rfl,by simp,by simp⟩) ?_
 rintro ⟨⟨⟨s,⟨⟩⟩,inp,st,⟨⟩⟩,⟨c1,⟨⟩⟩⟩ ⟨⟨s1,i1,i2,t1,t2⟩,h1⟩
 simp only [zh] at s1 i1 i2 t1 t2 h1 ⊢
 have other: ∀(i:Int) (c:TCur),i<=200000->Cu code i c->Okk (fun r:(TSign×List (List TLit)×List TStep×Int×List Int×List Int×Unit)×Unit=>SgD r.1.1.1∧r.1.2.1.length<=10∧(∀y∈r.1.2.1,smC y)∧(r.1.2.2.1.length<=200∧ ∀x∈r.1.2.2.1,stD x)∧r.1.2.2.2.2.1.length<=20∧r.1.2.2.2.2.2.1.length<=20) ((ze M2 c 7).bind fun r14=>((ze M2 (r14.2.1.1,r14.2.1.2.1,r14.2.1.2.2.1,()) (IntKind.i64.wrap ((st.length:Int)+1))).bind fun r15=>((ze M2 (r15.2.1.1,r15.2.1.2.1,r15.2.1.2.2.1,()) 3).bind fun r16=>(some (((s,()),inp,st,r14.1.1,[r15.1.1],[r16.1.1],()),()))))):=by
  intro i c hi hc;refine Okk.bind (Okk.lift (zck hb hc 7 (by omega) (by omega)) (fun h=>upC h)) ?_
  rintro ⟨⟨x,⟨⟩⟩,⟨c2,⟨⟩⟩⟩ ⟨_,_,h2⟩
  simp only [zh] at h2 ⊢;refine Okk.bind (Okk.lift (zck hb h2 _ (by omega) (by rw [w64 (by omega) (by omega)];omega)) (fun h=>upC h)) ?_
  rintro ⟨⟨y,⟨⟩⟩,⟨c3,⟨⟩⟩⟩ ⟨_,_,h3⟩
  simp only [zh] at h3 ⊢;refine Okk.bind (Okk.lift (zck hb h3 3 (by omega) (by omega)) (fun h=>upC h)) ?_
  rintro ⟨⟨z,⟨⟩⟩,⟨c4,⟨⟩⟩⟩ ⟨_,_,h4⟩
  exact .pure ⟨s1,i1,i2,⟨t1,t2⟩,by simp,by simp⟩
 refine Okk.ite (fun h0=>?_) fun _=>other _ c1 (by omega) h1
 have h0':0<st.length:=by have:=of_decide_eq_true h0;omega
 refine Okk.bind (Okk.lift (zlp hb h1 3 (by omega) (by omega)) (fun h=>upC h)) ?_
 rintro ⟨⟨b,⟨⟩⟩,⟨c2,⟨⟩⟩⟩ h2
 simp only [zh] at h2 ⊢;refine Okk.ite (fun _=>?_) fun _=>other _ c2 (by omega) h2
 refine Okk.bind (Okk.lift (zck hb h2 (st.length:Int) (by omega) (by omega)) (fun h=>upC h)) ?_
 rintro ⟨⟨n,⟨⟩⟩,⟨c3,⟨⟩⟩⟩ ⟨n1,n2,h3⟩
 simp only [zh] at n1 n2 h3 ⊢;refine Okk.bind (Okk.idx (l:=st) (i:=n) n1 (by omega)) ?_;intro x hx;have hx':=t2 x hx;have O:zaI M2 x.2.2.1=some ((x.2.2.1,()),()):=upC (ziU x.2.2.1 (by have:=hx'.2.1;omega));rw [O];simp only [qa,zef];refine Okk.bind (P:=fun y=> ∃w:List Int,y= .inl (([],()),(s,()),inp,st,x,w,())∧w.length<=20) ?_ ?_
 ·have hw:x.2.2.1.length<=20:=hx'.2.1;refine Okk.ite (fun hl=>?_) fun _=> .pure ⟨_,rfl,hw⟩
  refine Okk.bind (Okk.lift (zlp hb h3 4 (by omega) (by omega)) (fun h=>upC h)) ?_
  rintro ⟨⟨b2,⟨⟩⟩,⟨c4,⟨⟩⟩⟩ h4
  simp only [zh] at h4 ⊢;refine Okk.ite (fun _=>?_) fun _=> .pure ⟨_,rfl,hw⟩
  have hl':0<x.2.2.1.length:=by have:=of_decide_eq_true hl;omega
  refine Okk.bind (Okk.lift (zck hb h4 (x.2.2.1.length:Int) (by omega) (by omega)) (fun h=>upC h)) ?_
  rintro ⟨⟨m,⟨⟩⟩,⟨c5,⟨⟩⟩⟩ ⟨m1,m2,h5⟩
  simp only [zh] at m1 m2 h5 ⊢;refine Okk.bind (Okk.lift (zck hb h5 3 (by omega) (by omega)) (fun h=>upC h)) ?_
  rintro ⟨⟨q,⟨⟩⟩,⟨c6,⟨⟩⟩⟩ ⟨_,_,h6⟩
  refine Okk.iteT (by omega) ?_;refine Okk.bind (Okk.get (l:=x.2.2.1) (i:=m.toNat) (by omega)) ?_;intro z _;exact .pure ⟨_,rfl,by simpa using hw⟩
 ·rintro _ ⟨w,rfl,hw⟩
  exact .pure ⟨s1,i1,i2,⟨t1,t2⟩,hx'.1,hw⟩
theorem zIx (s0:TSign) (s:TSign) (st:List TStep) (hl:st.length<=200): ∀(k:Nat) (j:Int) (c:TCur) (o:List Int),o.length+k<=10->j+2*k<=200000->Cu code j c->
  Okk (fun y=> ∃(c':TCur) (o':List Int),y= .inl (s0,c',s,st,o',())∧o'.length<=10∧Cu code (j+2*k) c') (zd8 M2 s0 c s st o (k:Int)):=by
 intro k
 induction k with
 | zero=>
  intro j c o ho hj hc;refine Okk.lift ?_ (znX _ _ _ _ _ _);simp only [zgk,zh]
  exact Okk.iteF (by simp) (.pure ⟨c,o,rfl,by omega,hc.mono (by omega)⟩)
 | succ k ih=>
  intro j c o ho hj hc;refine Okk.lift ?_ (znX _ _ _ _ _ _);simp only [zgk,zh];refine Okk.iteT (by simp<;>omega) ?_;refine Okk.bind (Okk.lift (zck hb hc _ (by omega) (by rw [w64 (by omega) (by omega)];omega)) (fun h=>upC h)) ?_
  rintro ⟨⟨x,⟨⟩⟩,⟨c1,⟨⟩⟩⟩ ⟨_,_,h1⟩
  simp only [zh] at h1 ⊢;refine Okk.iteT (by simp;omega) ?_;rw [w64 (x:=((k+1:Nat):Int)-1) (by omega) (by omega),show ((k+1:Nat):Int)-1=(k:Int) by omega];refine Okk.mono (ih (j+2) c1 (o++ [x]) (by simp;omega) (by omega) h1) ?_
  rintro _ ⟨c',o',rfl,q1,q2⟩
  exact ⟨c',o',rfl,q1,q2.mono (by omega)⟩
theorem zwU:Okk (fun r=>SgD r.1.1.1∧(r.1.2.1.length<=200∧ ∀x∈r.1.2.1,stD x)∧r.1.2.2.1.length<=10) (zgS M2 code):=by
 refine Okk.lift ?_ (zyf code);simp only [znd];refine Okk.bind (zKt hb (j:=0) (by omega) ⟨rfl,by simp,by simp⟩) ?_
 rintro ⟨⟨⟨s,⟨⟩⟩,inp,st,⟨⟩⟩,⟨c1,⟨⟩⟩⟩ ⟨⟨s1,i1,i2,t1,t2⟩,h1⟩
 simp only [zh] at s1 i1 i2 t1 t2 h1 ⊢;refine Okk.bind (Okk.lift (zck hb h1 6 (by omega) (by omega)) (fun h=>upC h)) ?_
 rintro ⟨⟨n,⟨⟩⟩,⟨c2,⟨⟩⟩⟩ ⟨n1,n2,h2⟩
 simp only [zh] at n1 n2 h2 ⊢;obtain ⟨m,rfl⟩: ∃m:Nat,n=(m:Int):=⟨n.toNat,by omega⟩;refine Okk.bind (zIx hb ([],()) (s,()) st t1 m _ c2 [] (by simp;omega) (by omega) h2) ?_
 rintro _ ⟨c3,o,rfl,o1,h3⟩
 simp only [qd,zh];refine Okk.bind (Okk.lift (zck hb h3 10 (by omega) (by omega)) (fun h=>upC h)) ?_
 rintro ⟨⟨q,⟨⟩⟩,⟨c4,⟨⟩⟩⟩ _
 exact .pure ⟨s1,⟨t1,t2⟩,o1⟩
theorem zDZ:Okk (fun r=>SgD r.1.1.1∧(r.1.2.1.length<=200∧ ∀x∈r.1.2.1,stD x)∧r.1.2.2.1.length<=10) (zkG M2 code):=by
 refine Okk.lift ?_ (zyR code);simp only [zoo];refine Okk.bind (zwU hb) ?_
 rintro ⟨⟨⟨s,⟨⟩⟩,st,ps,r,⟨⟩⟩,⟨⟩⟩ h
 exact .pure h
theorem zJl {a:List Int} (ha:SgD a): ∀(k:Nat) (j:Int) (c:TCur) (o:List (List Int)),o.length=12->k<=10->j+300*k<=120000->(∀t∈o,t.length<=100)->Cu code j c->
  Okk (fun y=> ∃(c':TCur) (o':List (List Int)),y= .inl (c',o',())∧o'.length=12∧(∀t∈o',t.length<=100)∧Cu code (j+300*k) c') (zfH M c (a,()) o (k:Int)):=by
 intro k
 induction k with
 | zero=>
  intro j c o ho hk hj hx hc;refine Okk.lift ?_ (zpf _ _ _ _);simp only [zhw,zh]
  exact Okk.iteF (by simp) (.pure ⟨c,o,rfl,ho,hx,hc.mono (by omega)⟩)
 | succ k ih=>
  intro j c o ho hk hj hx hc;refine Okk.lift ?_ (zpf _ _ _ _);simp only [zhw,zh];refine Okk.iteT (by simp<;>omega) ?_;refine Okk.bind (zck hb hc 4 (by omega) (by omega)) ?_
  rintro ⟨⟨x,⟨⟩⟩,⟨c1,⟨⟩⟩⟩ ⟨x1,x2,h1⟩
  simp only [zh] at x1 x2 h1 ⊢;refine Okk.bind (zck hb h1 2 (by omega) (by omega)) ?_
  rintro ⟨⟨n,⟨⟩⟩,⟨c2,⟨⟩⟩⟩ ⟨n1,n2,h2⟩
  simp only [zh] at n1 n2 h2 ⊢;refine Okk.bind (zyD hb ha 4 (by omega) 3 (IntKind.i64.wrap (1+n)) (j+4) c2 (by rw [w64 (by omega) (by omega)];omega) (by omega) (by simp only [dk];omega) (h2.mono (by omega))) ?_
  rintro ⟨⟨t,⟨⟩⟩,⟨c3,⟨⟩⟩⟩ ⟨t1,_,h3⟩
  simp only [dl,dk] at t1 h3;simp only [zh] at h3 ⊢;refine Okk.iteT (by omega) ?_;refine Okk.bind (Okk.get (l:=o) (i:=x.toNat) (by omega)) ?_;intro z _;rw [w64 (x:=((k+1:Nat):Int)-1) (by omega) (by omega),show ((k+1:Nat):Int)-1=(k:Int) by omega];refine Okk.mono (ih (j+300) c3 (o.set x.toNat t) (by simpa using ho) (by omega) (by omega) (fun w hw=>?_) (h3.mono (by omega))) ?_
  ·rcases List.mem_or_eq_of_mem_set hw with hw | rfl
   ·exact hx w hw
   ·omega
  ·rintro _ ⟨c',o',rfl,q1,q2,q3⟩
   exact ⟨c',o',rfl,q1,q2,q3.mono (by omega)⟩
theorem zKP {a:List Int} (ha:SgD a) {j:Int} (hj:j<=100000) {c:TCur} (hc:Cu code j c):Okk (fun r=>r.1.1.length<=12∧(∀t∈r.1.1,t.length<=100)∧Cu code (j+2000) r.2.1) (zk0 M c (a,())):=by
 refine Okk.lift ?_ (zyU c (a,()));simp only [znY,zh];refine Okk.iteT (by decide) ?_;refine Okk.bind (zck hb hc 5 (by omega) (by omega)) ?_
 rintro ⟨⟨n,⟨⟩⟩,⟨c1,⟨⟩⟩⟩ ⟨n1,n2,h1⟩
 simp only [zh] at n1 n2 h1 ⊢;obtain ⟨m,rfl⟩: ∃m:Nat,n=(m:Int):=⟨n.toNat,by omega⟩;refine Okk.bind (zJl hb ha m _ c1 (List.replicate (Int.toNat 12) []) (by simp) (by omega) (by omega) (fun t ht=>by rw [List.eq_of_mem_replicate ht];simp) h1) ?_
 rintro _ ⟨c2,o,rfl,o1,o2,h2⟩
 simp only [qd,zh];refine Okk.bind (P:=fun y=> ∃(c':TCur) (o':List (List Int)),y= .inl (c',o',())∧o'.length<=12∧(∀t∈o',t.length<=100)∧Cu code (j+2000) c') ?_ ?_
 ·refine Okk.bind (zlp hb h2 40 (by omega) (by omega)) ?_
  rintro ⟨⟨b,⟨⟩⟩,⟨c3,⟨⟩⟩⟩ h3
  simp only [zh] at h3 ⊢;refine Okk.ite (fun _=>?_) fun _=> .pure ⟨c3,o,rfl,by omega,o2,h3.mono (by omega)⟩
  refine Okk.iteT (by omega) (.pure ⟨c3,_,rfl,by simp;omega,fun t ht=>o2 t (List.mem_of_mem_take (List.mem_of_mem_drop ht)),h3.mono (by omega)⟩)
 ·rintro _ ⟨c',o',rfl,q1,q2,q3⟩
  exact .pure ⟨q1,q2,q3⟩
omit hb in
theorem zJY (s:TSign) (hs:s.1.length<=1048576) (hg:gS s.1=true) (b:List (List Int)) (hl:b.length<=1000) (hx: ∀t∈b,t.length<=1000): ∀k i:Nat,i+k=b.length->(zbW M s b b.length i=some (.inl ())∧ ∀t∈b.drop i,t≠ []->isT s.1 t=true)∨zbW M s b b.length i=some (.inr ((false,()),())):=by
 intro k
 induction k with
 | zero=>
  intro i hi;obtain rfl:i=b.length:=by omega
  refine .inl ⟨zmE _ _ _ _ ?_,by simp⟩;simp only [zf5]
  rw [qc (by simp)]
 | succ k ih=>
  intro i hi;have h:i<b.length:=by omega
  have hlt:decide ((i:Int)<(b.length:Int))=true:=by simp;omega
  have e:=zsv s hg b[i] (by have:=hx _ (qi h);omega)
  have key:(b[i]≠ []->isT s.1 b[i]=true)-> ∀X,zbW M s b b.length ((i+1:Nat):Int)=some X->zbW M s b b.length i=some X:=by
   intro hq X hX;refine zmE _ _ _ _ ?_;simp only [zf5,za,hlt,qf,zd h,e,qa];rw [zb (by omega)];by_cases h0:b[i]= []
   ·rw [qc (by rw [h0];simp)];exact hX
   ·rw [qb (by simp;exact qX.2 h0),hq h0,qc (by simp)];exact hX
  by_cases hq:b[i]≠ []->isT s.1 b[i]=true
  ·rcases ih (i+1) (by omega) with ⟨h1,h2⟩ | h1
   ·refine .inl ⟨key hq _ h1,fun t ht=>?_⟩;rw [qj h] at ht;rcases qz.1 ht with rfl | ht
    ·exact hq
    ·exact h2 t ht
   ·exact .inr (key hq _ h1)
  ·have h0:b[i]≠ []:=fun h0=>hq (fun h=>absurd h0 h)
   have h1:isT s.1 b[i]=false:=by
    cases hv:isT s.1 b[i] with
    | false=>rfl
    | true=>exact absurd (fun _=>hv) hq
   refine .inr (zmE _ _ _ _ ?_);simp only [zf5,za,hlt,qf,zd h,e,qa];rw [qb (by simp;exact qX.2 h0),h1];rfl
omit hb in
theorem zCE {σ:Int->List Int} (h: ∀v,(σ v).length<=60): ∀t:List Int,(apS σ t).length<=60*t.length
 | []=>by simp [apS]
 | n::t=>by
  have h1:=zCE h t;have h2:=zIF h n;simp only [apS,List.flatMap_cons,qL,qD] at h1 ⊢;omega
omit hb in
theorem zDp (s:TSign) (hs:s.1.length<=1048576) (sub:List (List Int)) (hl:sub.length<=12) (hx: ∀t∈sub,t.length<=100) (c:List TLit) (hc:c.length<=9) (hcx: ∀x∈c,liD x):
  ∃(o:List TLit) (ok:Bool),zhL M s sub c=some ((o,ok,()),())∧(ok=true->0<c.length∨o= [])∧o.length<=9∧ ∀x∈o,liD x:=by
 have gI:=zig s (by omega)
 have none0: ∀(h:zci M s sub c=some (([],false,()),())),∃(o:List TLit) (ok:Bool),zhL M s sub c=some ((o,ok,()),())∧(ok=true->0<c.length∨o= [])∧o.length<=9∧ ∀x∈o,liD x:=
  fun h=>⟨[],false,ztw _ _ _ h,nofun,by simp,by simp⟩
 cases hg:gS s.1 with
 | false=>
  rw [hg] at gI;have G:ze4 M s sub=some ((false,()),()):=zmo _ _ (by simp only [zg9,za,gI,qa];rfl)
  exact none0 (by simp only [zci,za,G,qa];rfl)
 | true=>
 rw [hg] at gI;by_cases h12:sub.length=12
 case neg=>
  have G:ze4 M s sub=some ((false,()),()):=zmo _ _ (by
   simp only [zg9,za,gI,qa,qm,qg,qe];rw [qb (by simp;omega)])
  exact none0 (by simp only [zci,za,G,qa];rfl)
 have L:=zJY s hs hg sub (by omega) (fun t ht=>by have:=hx t ht;omega) sub.length 0 (by omega);rw [e0x] at L;have hne: ¬(((sub.length:Nat):Int) !=12)=true:=by simp;omega
 rcases L with ⟨l1,l2⟩ | l1
 case inr=>
  have G:ze4 M s sub=some ((false,()),()):=zmo _ _ (by
   simp only [zg9,za,gI,l1,qa,qm,qg,qe];rw [qc hne];rfl)
  exact none0 (by simp only [zci,za,G,qa];rfl)
 have G:ze4 M s sub=some ((true,()),()):=zmo _ _ (by
  simp only [zg9,za,gI,l1,qa,qm,qg,qe];rw [qc hne];rfl)
 rw [qk] at l2;have smc: ∀x∈c,smL x:=fun x h=>by have:=hcx x h;exact ⟨by have:=this.1;omega,by have:=this.2;omega⟩
 have C:=zeV s hg c (by omega) smc
 cases hok:clOK s.1 c with
 | false=>
  rw [hok] at C
  exact none0 (by simp only [zci,za,G,C,qa];rfl)
 | true=>
 rw [hok] at C;obtain ⟨c1,c2⟩:=zm.1 hok
 let σ:Int->List Int:=fun v=>(sub[v.toNat]?).getD []
 have hsub:sub=tabS σ:=by
  apply List.ext_getElem?;intro k;by_cases hk:k<12
  ·rw [zlM _ hk];show sub[k]?=some ((sub[((k:Nat):Int).toNat]?).getD []);rw [qo,qu (by omega)];rfl
  ·rw [List.getElem?_eq_none (by omega),List.getElem?_eq_none (by rw [zd3];omega)]
 have hσ: ∀v,(σ v).length<=40:=by
  intro v;show ((sub[v.toNat]?).getD []).length<=40
  cases hv:sub[v.toNat]? with
  | none=>simp
  | some t=>
   by_cases h0:t= []
   ·subst h0;simp
   ·exact (zf.1 (l2 t (List.mem_of_getElem? hv) h0)).1
 have A:=zs9 σ (fun v=>by have:=hσ v;omega) c (by omega) (fun x h=>zbt (c2 x h));rw [<-hsub] at A
 have hA: ∀x∈apC σ c,smL x:=by
  intro x h;obtain ⟨y,hy,rfl⟩:=qQ.1 h;have lim:=zbt (c2 y hy);have q1:=zCE (σ:=σ) (fun v=>by have:=hσ v;omega) y.2.1;have q2:=zCE (σ:=σ) (fun v=>by have:=hσ v;omega) y.2.2.1;exact ⟨by show (apS σ y.2.1).length<=1048576;omega,by show (apS σ y.2.2.1).length<=1048576;omega⟩
 have hAl:(apC σ c).length=c.length:=by simp [apC]
 have D:=zeV s hg (apC σ c) (by omega) hA
 cases hok2:clOK s.1 (apC σ c) with
 | false=>
  rw [hok2] at D;have Mm:zjE M s (apC σ c)=some (([],false,()),()):=zvv _ _ (by simp only [zmD,za,D,qa];rfl)
  exact none0 (by simp only [zci,za,G,C,A,Mm,qa];rfl)
 | true=>
  rw [hok2] at D;have Mm:zjE M s (apC σ c)=some ((apC σ c,true,()),()):=zvv _ _ (by simp only [zmD,za,D,qa];rfl);refine ⟨apC σ c,true,ztw _ _ _ (by simp only [zci,za,G,C,A,Mm,qa];rfl),fun _=>?_,by omega,fun x h=>?_⟩
  ·by_cases h0:0<c.length
   ·exact .inl h0
   ·exact .inr (wd.1 (by omega))
  ·have lim:=zbt ((zm.1 hok2).2 x h);exact ⟨by omega,by omega⟩
theorem zCn:Okk (fun r=>SgD r.1.1.1∧(r.1.2.1.length<=9∧ ∀x∈r.1.2.1,liD x)∧(r.1.2.2.1.length<=10∧ ∀x∈r.1.2.2.1,liD x)) (zjR M code):=by
 refine Okk.lift ?_ (zx2 code);simp only [zni];refine Okk.bind (zHJ hb (j:=0) (by omega) ⟨rfl,by simp,by simp⟩) ?_
 rintro ⟨⟨⟨a,⟨⟩⟩,⟨⟩⟩,⟨c1,⟨⟩⟩⟩ ⟨ha,h1⟩
 simp only [zh] at ha h1 ⊢;refine Okk.bind (zAR hb ha (by omega) h1) ?_
 rintro ⟨⟨c,⟨⟩⟩,⟨c2,⟨⟩⟩⟩ ⟨k1,k2,h2⟩
 simp only [zh] at k1 k2 h2 ⊢;refine Okk.bind (zKP hb ha (by omega) h2) ?_
 rintro ⟨⟨b,⟨⟩⟩,⟨c3,⟨⟩⟩⟩ ⟨b1,b2,h3⟩
 simp only [zh] at b1 b2 h3 ⊢;obtain ⟨o,ok,A,_,o1,o2⟩:=zDp (a,()) (by have:=ha.1;simp only;omega) b b1 b2 c k1 k2;rw [A];simp only [qa]
 have last: ∀(i:Int) (c':TCur),i<=70000->Cu code i c'->Okk (fun r:(TSign×List TLit×List TLit×Unit)×Unit=>SgD r.1.1.1∧(r.1.2.1.length<=9∧ ∀x∈r.1.2.1,liD x)∧(r.1.2.2.1.length<=10∧ ∀x∈r.1.2.2.1,liD x)) ((zcx M c' (a,())).bind fun r14=>(some (((a,()),c,r14.1.1,()),()))):=by
  intro i c' hi hc';refine Okk.bind (zAR hb ha hi hc') ?_
  rintro ⟨⟨d,⟨⟩⟩,⟨c4,⟨⟩⟩⟩ ⟨d1,d2,_⟩
  exact .pure ⟨ha,⟨k1,k2⟩,(by show d.length<=10;simp only at d1;omega),d2⟩
 refine Okk.ite (fun _=>?_) fun _=>last _ c3 (by omega) h3
 refine Okk.bind (zlp hb h3 2 (by omega) (by omega)) ?_
 rintro ⟨⟨q,⟨⟩⟩,⟨c4,⟨⟩⟩⟩ h4
 simp only [zh] at h4 ⊢;refine Okk.ite (fun _=>?_) fun _=>last _ c4 (by omega) h4
 refine Okk.bind (zGy hb ha (by omega) h4) ?_
 rintro ⟨⟨x,⟨⟩⟩,⟨c5,⟨⟩⟩⟩ ⟨x1,h5⟩
 simp only [zh,zg] at x1 h5 ⊢;refine Okk.iteT (by simp;omega) ?_
 have hall: ∀y∈o++ [x],liD y:=fun y hy=>by
  rcases qr.1 hy with h | h
  ·exact o2 y h
  ·rw [qM.1 h];exact x1
 have hlen:(o++ [x]).length<=10:=by simp;omega
 refine Okk.bind (P:=fun y=> ∃d:List TLit,y= .inl (([],()),(a,()),c,d,())∧d.length<=10∧ ∀x∈d,liD x) ?_ ?_
 ·refine Okk.ite (fun hl=>?_) fun _=> .pure ⟨_,rfl,hlen,hall⟩
  have hl':1<(o++ [x]).length:=by have:=of_decide_eq_true hl;omega
  refine Okk.bind (zlp hb h5 2 (by omega) (by omega)) ?_
  rintro ⟨⟨q2,⟨⟩⟩,⟨c6,⟨⟩⟩⟩ h6
  refine Okk.ite (fun _=>?_) fun _=> .pure ⟨_,rfl,hlen,hall⟩
  refine Okk.iteT (by omega) ?_;refine Okk.bind (Okk.get (l:=o++ [x]) (i:=(0:Int).toNat) (by simp)) ?_;intro y hy;refine Okk.iteT (by omega) ?_;refine Okk.bind (Okk.get (l:=o++ [x]) (i:=(1:Int).toNat) (by simpa using hl')) ?_;intro z hz;refine Okk.iteT (by omega) ?_;refine Okk.bind (Okk.get (l:=o++ [x]) (i:=(0:Int).toNat) (by simp)) ?_;intro _ _;refine Okk.iteT (by simp only [List.length_set];omega) ?_;refine Okk.bind (Okk.get (i:=(1:Int).toNat) (by simpa using hl')) ?_;intro _ _;refine .pure ⟨_,rfl,by simpa using hlen,fun w hw=>?_⟩;rcases List.mem_or_eq_of_mem_set hw with hw | hw
  ·rcases List.mem_or_eq_of_mem_set hw with hw | hw
   ·exact hall w hw
   ·rw [hw];exact hall z hz
  ·rw [hw];exact hall y hy
 ·rintro _ ⟨d,rfl,d1,d2⟩
  exact .pure ⟨ha,⟨k1,k2⟩,d1,d2⟩
theorem zzQ:Okk (fun r=>SgD r.1.1.1∧smC r.1.2.1∧r.1.2.2.1.length<=10∧ ∀y∈r.1.2.2.1,smC y) (zeO M code):=by
 refine Okk.lift ?_ (zwp code);simp only [zlb];refine Okk.bind (zCn hb) ?_
 rintro ⟨⟨⟨a,⟨⟩⟩,c,d,⟨⟩⟩,⟨⟩⟩ ⟨ha,⟨k1,k2⟩,d1,d2⟩
 simp only at ha k1 k2 d1 d2 ⊢;refine Okk.bind (zLZ hb ha (j:=0) (by omega) ⟨rfl,by simp,by simp⟩) ?_
 rintro ⟨⟨o,⟨⟩⟩,⟨c2,⟨⟩⟩⟩ ⟨o1,o2,h2⟩
 simp only [zh] at o1 o2 h2 ⊢;refine Okk.bind (P:=fun y=> ∃l:List (List TLit),y= .inl (([],()),(a,()),d,l,())∧l.length<=10∧ ∀y∈l,smC y) ?_ ?_
 ·refine Okk.bind (zlp hb h2 2 (by omega) (by omega)) ?_
  rintro ⟨⟨q,⟨⟩⟩,⟨c3,⟨⟩⟩⟩ _
  refine Okk.ite (fun _=>?_) fun _=> .pure ⟨o,rfl,by omega,o2⟩
  refine Okk.iteT (by simp;omega) (.pure ⟨_,rfl,by simp;omega,fun y hy=>?_⟩);rcases qr.1 hy with h | h
  ·exact o2 y h
  ·rw [qM.1 h];exact zsK (by omega) k2
 ·rintro _ ⟨l,rfl,l1,l2⟩
  exact .pure ⟨ha,zsK (c:=d) (by omega) d2,l1,l2⟩
end
theorem zCb (s:Int) (h1:1<=s) (m:Nat) (hm:m<=1000): ∀(k i:Nat) (n:Int),i+k=m->0<=n->n*pw s k<=1000000->ziN M s n m i=some (.inl (n*pw s k,())):=by
 intro k
 induction k with
 | zero=>
  intro i n hi _ _;obtain rfl:i=m:=by omega
  apply zs5
  simp [zkU,pw]
 | succ k ih=>
  intro i n hi hn hb;obtain ⟨g0,g1,g2⟩:=zEM h1 hn hb;apply zs5;simp only [zkU];rw [qb (by simp<;>omega),w64 (x:=n*s) (by omega) (by omega),zb (by omega),ih (i+1) (n*s) (by omega) g0 g2,Int.mul_assoc];rfl
theorem zHT (s:Int) (h1:1<=s) (h3:s<=3) (k:Int) (k0:0<=k) (k3:k<=3):zoF M s k=some ((pw s k.toNat,()),()):=by
 apply zB2;have:=zCb s h1 k.toNat (by omega) k.toNat 0 1 (by omega) (by omega) (by have:=zD0 h1 h3 (k:=k.toNat) (by omega);omega);rw [show ((k.toNat:Nat):Int)=k by omega,Int.one_mul,e0x] at this;simp only [zsk,this,qa,qd]
theorem zKJ (x s:Int):zji M x s=some ((!(decide (0<=x)&&decide (x<s)),()),()):=by
 apply zxR;simp only [zmm,qt];by_cases h:x<0
 ·rw [qb h];simp;omega
 ·rw [qc h];have h0:0<=x:=by omega
  rw [qp h0,Bool.true_and];by_cases h3:x<s
  ·rw [qp h3,qA (by omega)];rfl
  ·rw [qA h3,qp (by omega)];rfl
theorem zEs (s:Int) (a:List Int) (ha:a.length<=17592186044416): ∀k i:Nat,i+k=a.length-> ∃r,zai M a (s,()) a.length i=some r∧(match r with | .inl _=>(a.drop i).all (fun x=>decide (0<=x)&&decide (x<s))=true | .inr r=>0<=r.1.1∧(a.drop i).all (fun x=>decide (0<=x)&&decide (x<s))=false):=by
 intro k
 induction k with
 | zero=>
  intro i hi;obtain rfl:i=a.length:=by omega
  refine ⟨.inl (),zbF _ _ _ _ (by simp [zae]),by simp⟩
 | succ k ih=>
  intro i hi;have h1:i<a.length:=by omega
  obtain ⟨r,hr,hm⟩:=ih (i+1) (by omega);rw [qj h1,qR];by_cases hp:(decide (0<=a[i])&&decide (a[i]<s))=true
  ·refine ⟨r,zbF _ _ _ _ ?_,by rw [hp,Bool.true_and];exact hm⟩;simp only [zae];rw [qb (by simpa using h1),zd h1,zb (by omega)];simp only [qa,zKJ,hp,qm,qg,qe];exact hr
  ·rw [Bool.not_eq_true] at hp;refine ⟨.inr (((i:Int),()),()),zbF _ _ _ _ ?_,Int.natCast_nonneg i,by rw [hp,Bool.false_and]⟩;simp only [zae];rw [qb (by simpa using h1),zd h1];simp only [qa,zKJ,hp,qO,qf]
theorem zE0 (s:Int) (a:List Int) (ha:a.length<=17592186044416):zaT M a (s,())=some ((!(a.all (fun x=>decide (0<=x)&&decide (x<s))),()),()):=by
 apply zjm;simp only [zbQ];obtain ⟨r,hr,hm⟩:=zEs s a ha a.length 0 (by omega);rw [e0x] at hr;rw [qk] at hm
 cases r with
 | inl r=>
  rw [zee a (s,()) (r:=((-1,()),())) (by simp only [za8,hr,qa,qd])];simp only at hm
  simp [hm]
 | inr r=>
  rw [zee a (s,()) (r:=r) (by simp only [za8,hr,qa,qF])];simp only at hm;simp [hm]
theorem zDw (s:Int) (l:List Int) (hl:l.length<=17592186044416):zkH M s l=some ((elOK s l,()),()):=by
 apply zyv;simp only [zon,zE0 s l hl,qa,Bool.not_not,elOK]
theorem zCA (s:TSign) (hg:gS s.1=true) (w:TWorld) (h1:1<=w.1) (h3:w.1<=3) (hl:w.2.1.length=s.1.length) (hx: ∀y∈w.2.1,smS y): ∀k i:Nat,i+k=w.2.1.length->zeI M s w w.2.1 w.2.1.length i=some (if tabOK w.1 (s.1.drop i) (w.2.1.drop i)=true then .inl () else .inr ((false,()),())):=by
 obtain ⟨g1,g2⟩:=zIR hg;intro k
 induction k with
 | zero=>
  intro i hi;obtain rfl:i=w.2.1.length:=by omega
  apply zoI
  simp [zgF,tabOK]
 | succ k ih=>
  intro i hi;have h0:i<w.2.1.length:=by omega
  have h0':i<s.1.length:=by omega
  have ha:=g2 _ (qi h0');have hy:=hx _ (qi h0);unfold smS at hy;apply zoI;rw [qj h0,qj h0'];simp only [zgF];rw [qb (by simpa using h0),zd h0,zd h0',zb (by omega)];simp only [qa,zHT w.1 h1 h3 _ ha.1 ha.2,zDw w.1 _ (show (w.2.1[i]).length<=17592186044416 by omega),zC,zbc,ih (i+1) (by omega)];by_cases e:((w.2.1[i]).length:Int)=pw w.1 (s.1[i]).toNat
  ·rw [qc (by simpa using e)];cases hE:elOK w.1 w.2.1[i]<;>simp [tabOK,e,hE]
  ·rw [qb (by simpa using e)];simp [tabOK,e]
theorem zID (s:TSign) (hg:gS s.1=true) (w:TWorld) (hl:w.2.1.length<=1048576) (hx: ∀y∈w.2.1,smS y):zj2 M s w=some ((wOK s.1 w,()),()):=by
 have hsz:zpX M w.1=some ((decide (1<=w.1)&&decide (w.1<=3),()),()):=by
  apply zDB;simp only [zt8,qt];by_cases h:w.1>=1
  ·rw [qb h,qp h];simp
  ·rw [qc h,qA (by omega)];rfl
 apply zye;simp only [zng,hsz,qa,zC,zbc,wOK];by_cases h1:1<=w.1
 ·by_cases h3:w.1<=3
  ·rw [qc (by simp [h1,h3])];by_cases he:w.2.1.length=s.1.length
   ·have:=zCA s hg w h1 h3 he hx w.2.1.length 0 (by omega);rw [e0x,qk,qk] at this;rw [qc (by simp;omega),this];cases tabOK w.1 s.1 w.2.1<;>simp [h1,h3,he]
   ·rw [qb (by simp;omega)];simp [he]
  ·rw [qb (by simp [h3])];simp [h3]
 ·rw [qb (by simp [h1])];simp [h1]
theorem zCW {T u:List Int} {i:Nat} (h:T.drop i=u):u.length=T.length-i:=by rw [<-h,List.length_drop]
theorem zFN {T u x:List Int} {i:Nat} (h:T.drop i=u++x):T.drop (i+u.length)=x:=by
 rw [<-List.drop_drop,h,List.drop_left'];rfl
def IV (a:List Int) (w:TWorld) (env u:List Int):Prop:=0<=vl a w env u∧vl a w env u<w.1∧
 ∀(T x:List Int) (i:Nat),T.length<=1000->T.drop i=u++x->zjw M (a,()) w T i env=some ((vl a w env u,((i+u.length:Nat):Int),()),())
theorem zEC {a:List Int} {w:TWorld} {env:List Int} (h1:1<=w.1) (h3:w.1<=3): ∀(us:List (List Int)) (acc:Int) (j:Nat),(∀u∈us,IV a w env u)->j+us.length<=3->0<=acc->acc<pw w.1 j->0<=foldV w.1 acc (us.map (vl a w env))∧foldV w.1 acc (us.map (vl a w env))<pw w.1 (j+us.length)
 | [],acc,j,_,_,h0,hp=>⟨h0,hp⟩
 | u::us,acc,j,hu,hj,h0,hp=>by
  simp only [qD] at hj;have hv:=hu u (by simp);have hs:=zEe h1 h3 h0 hp (by have:=zD0 h1 h3 (k:=j) (by omega);omega) hv.1 hv.2.1;have:=zEC h1 h3 us (acc*w.1+vl a w env u) (j+1) (fun v hv=>hu v (by simp [hv])) (by omega) hs.1 hs.2.1;simp only [qK,foldV,List.foldl_cons,qD] at this ⊢;rw [show j+(us.length+1)=j+1+us.length by omega];exact this
theorem zGW {a:List Int} {w:TWorld} (h1:1<=w.1) (h3:w.1<=3) (env T:List Int) (hT:T.length<=1000) (n:Int) (cnt:Nat) (hc:cnt<=3): ∀(us:List (List Int)) (i p:Nat) (x:List Int) (acc:Int),(∀u∈us,IV a w env u)->i+us.length=cnt->T.drop p=us.flatten++x->0<=acc->acc<pw w.1 i->
  zgb M T env (a,()) w n acc p cnt i=some (.inl (w,n,foldV w.1 acc (us.map (vl a w env)),((p+us.flatten.length:Nat):Int),())):=by
 intro us
 induction us with
 | nil=>
  intro i p x acc _ hi _ _ _;apply zqE;simp at hi;subst hi
  simp [zh7,foldV]
 | cons u us ih=>
  intro i p x acc hu hi hd h0 hp;simp only [qD] at hi;simp only [List.flatten_cons,qE,qL] at hd ⊢;have hv:=hu u (by simp);have hs:=zEe h1 h3 h0 hp (by have:=zD0 h1 h3 (k:=i) (by omega);omega) hv.1 hv.2.1;have hl:=zCW hd;apply zqE;simp only [zh7];rw [qb (by simp<;>omega),zbc,hv.2.2 T (us.flatten++x) p hT hd];simp only [qa];rw [w64 (x:=acc*w.1) (by omega) (by omega),w64 (by have:=hv.1;omega) (by have:=hv.2.1;omega),zb (by omega),ih (i+1) (p+u.length) x _ (fun v hv=>hu v (by simp [hv])) (by omega) (zFN hd) hs.1 hs.2.1];simp [foldV,Nat.add_assoc]
theorem zLM {a:List Int} (hg:gS a=true) {w:TWorld} (hw:wOK a w=true) {env:List Int} (he:envOK w.1 env=true): ∀(N:Nat) (u:List Int),u.length<=N->N<=1000->Tm a u->IV a w env u:=by
 obtain ⟨h1,h3,hwl,hwt⟩:=ztB hw;intro N
 induction N with
 | zero=>intro u hu _ h;have:=h.pos;omega
 | succ N ih=>
  intro u hu hN h;have bd:=zKE w env hg hw he h;refine ⟨bd.1,bd.2,?_⟩;obtain ⟨n,us,rfl,hb,hl,hk⟩:=h.parts hg;have hn:=zsX hg n;have hb':=hb;unfold badN at hb';simp only [qD] at hu
  have kid: ∀v∈us,IV a w env v:=fun v hv=>ih v (by
   have:v.length<=us.flatten.length:=(List.sublist_flatten_of_mem hv).length_le;omega) (by omega) (hk v hv)
  intro T x i hT hd;have hi:i<T.length:=by have:=zCW hd;simp at this;omega
  have hdc:=qj hi;rw [hd] at hdc;obtain ⟨hx,hdc⟩:=List.cons.inj hdc;apply zAn;simp only [zqh];rw [zd hi,<-hx];simp only [qa];by_cases h0:n<0
  ·have h4:ar a n=0:=by simp [ar,h0]
   obtain rfl:us= []:=List.eq_nil_of_length_eq_zero (by omega);obtain ⟨v,v1,v2,v3⟩:=zqJ he (-1-n).toNat (by omega)
   have e2:idx env (-1-n)=some v:=by
    unfold idx;rw [qb (by omega),v1]
   rw [qb (by simpa using h0),w64 (x:= -1-n) (by omega) (by omega),e2,zb (by omega),List.flatten_nil,zwN w env h0,v1];simp
  ·have hfa:=zEC (a:=a) (env:=env) h1 h3 us 0 0 kid (by omega) (by omega) (by simp [pw]);rw [qJ] at hfa;have hna:n.toNat<a.length:=by omega
   have hnt:n.toNat<w.2.1.length:=by omega
   have htab:=zyN n.toNat hna hnt hwt;have har:ar a n=a[n.toNat]:=by unfold ar;rw [qc h0,qu hna];rfl
   rw [<-har,<-hl,qo] at htab;have hin:(foldV w.1 0 (us.map (vl a w env))).toNat<(w.2.1[n.toNat]).length:=by omega
   have i1:idx w.2.1 n=some w.2.1[n.toNat]:=by unfold idx;rw [qb (by omega),qu hnt]
   have i2:idx w.2.1[n.toNat] (foldV w.1 0 (us.map (vl a w env)))=some (w.2.1[n.toNat])[(foldV w.1 0 (us.map (vl a w env))).toNat]:=by unfold idx;rw [qb (by omega),qu hin]
   have ev:vl a w env (n::us.flatten)=(w.2.1[n.toNat])[(foldV w.1 0 (us.map (vl a w env))).toNat]:=by
    rw [ztq hg w env h0 hl hk,qu hnt,qa,qu hin];rfl
   rw [qc (by simpa using h0),zD9 (a,()) n hb,zb (by omega)];simp only [qa];rw [<-hl];have:=zGW (a:=a) h1 h3 env T hT n us.length (by omega) us 0 (i+1) x 0 kid (by omega) hdc.symm (by omega) (by simp [pw]);rw [e0x] at this;rw [zbc,this];simp only [qa,qd];rw [i1];simp only [qa];rw [i2,ev];simp only [qa,qD];congr 4;omega
theorem zHM (s:TSign) (hg:gS s.1=true) (w:TWorld) (hw:wOK s.1 w=true) (env:List Int) (he:envOK w.1 env=true) (u:List Int) (hu:isT s.1 u=true):ziS M s w u env=some ((vl s.1 w env u,()),()):=by
 simp only [isT,qq,qt] at hu;obtain ⟨_,_,v3⟩:=zLM hg hw he 40 u hu.1 (by omega) hu.2;have h3:=v3 u [] 0 (by omega) (by simp);rw [e0x] at h3;apply zz6;rw [zC] at h3;simp only [zo7,zC,zbc,h3,qa]
theorem zFm (x:TLit):(x.1,x.2.1,x.2.2.1,())=x:=rfl
noncomputable def lh (s:TSign) (w:TWorld) (env:List Int) (x:TLit):Bool:=lhv s.1 w env x
noncomputable def hl (s:TSign) (w:TWorld) (c:List TLit) (env:List Int):Bool:=c.any (lh s w env)
section
variable (s : TSign) (hg : gS s.1 = true) (w : TWorld) (hw : wOK s.1 w = true)
include hg hw
theorem zKw (env:List Int) (he:envOK w.1 env=true) (x:TLit) (hx:litOK s.1 x=true):zh4 M x s w env=some ((lh s w env x,()),()):=by
 simp only [litOK,qq] at hx;apply zwO;simp only [zlS,zC,zbc,zHM s hg w hw env he _ hx.1,zHM s hg w hw env he _ hx.2,qa,lh,lhv]
end
theorem zEr (s:TSign) (hg:gS s.1=true) (w:TWorld) (hw:wOK s.1 w=true) (env:List Int) (he:envOK w.1 env=true) (a:List TLit) (ha:a.length<=17592186044416) (hx: ∀x∈a,litOK s.1 x=true): ∀k i:Nat,i+k=a.length-> ∃r,zD M a (s,w,env,()) a.length i=some r∧(match r with | .inl _=>(a.drop i).any (lh s w env)=false | .inr r=>0<=r.1.1∧(a.drop i).any (lh s w env)=true):=by
 intro k
 induction k with
 | zero=>
  intro i hi;obtain rfl:i=a.length:=by omega
  refine ⟨.inl (),zaV _ _ _ _ (by simp [zw]),by simp⟩
 | succ k ih=>
  intro i hi;have h1:i<a.length:=by omega
  have hox:=hx _ (qi h1);obtain ⟨r,hr,hm⟩:=ih (i+1) (by omega);rw [qj h1,List.any_cons];by_cases hp:(lh s w env) a[i]=true
  ·refine ⟨.inr (((i:Int),()),()),zaV _ _ _ _ ?_,Int.natCast_nonneg i,by rw [hp,Bool.true_or]⟩;simp only [zw];rw [qb (by simpa using h1),zd h1];simp only [qa,zFm,zKw s hg w hw env he _ hox,hp,qf]
  ·rw [Bool.not_eq_true] at hp;refine ⟨r,zaV _ _ _ _ ?_,by rw [hp,Bool.false_or];exact hm⟩;simp only [zw];rw [qb (by simpa using h1),zd h1,zb (by omega)];simp only [qa,zFm,zKw s hg w hw env he _ hox,hp,qg,qe];exact hr
theorem zEk (s:TSign) (hg:gS s.1=true) (w:TWorld) (hw:wOK s.1 w=true) (env:List Int) (he:envOK w.1 env=true) (a:List TLit) (ha:a.length<=17592186044416) (hx: ∀x∈a,litOK s.1 x=true):zac M a (s,w,env,())=some ((a.any (lh s w env),()),()):=by
 apply zgd;simp only [zaZ];obtain ⟨r,hr,hm⟩:=zEr s hg w hw env he a ha hx a.length 0 (by omega);rw [e0x] at hr;rw [qk] at hm
 cases r with
 | inl r=>
  rw [zcw a (s,w,env,()) (r:=((-1,()),())) (by simp only [zan,hr,qa,qd])];simp only at hm
  simp [hm]
 | inr r=>
  rw [zcw a (s,w,env,()) (r:=r) (by simp only [zan,hr,qa,qF])];simp only at hm;simp [hm]
section
variable (s : TSign) (hg : gS s.1 = true) (w : TWorld) (hw : wOK s.1 w = true) (c : List TLit) (hc : clOK s.1 c = true)
include hg hw hc
omit hg hw in
theorem zHm:c.length<=8∧ ∀x∈c,litOK s.1 x=true:=by
 simp only [clOK,qq,qt] at hc;exact ⟨hc.1,fun x hx=>(List.all_eq_true.1 hc.2) x hx⟩
theorem zI0 (env:List Int) (he:envOK w.1 env=true):zjZ M s w c env=some ((hl s w c env,()),()):=by
 obtain ⟨c8,hx⟩:=zHm s c hc;apply zya;simp only [znm,zC,zbc,zEk s hg w hw env he c (by omega) hx,qa,hl]
end
def srchN (f:Int->Option (List Int)):Nat->Int->Option (List Int)
 | 0,_=>none
 | k+1,n=>match f n with
  | some e=>some e
  | none=>srchN f k (n+1)
def srch (S:Nat) (H:List Int->Bool):List Int->List Int->Option (List Int)
 | [],env=>if H env=true then none else some env
 | v::r,env=>srchN (fun n=>srch S H r (env.set v.toNat n)) S 0
theorem zG6 {f:Int->Option (List Int)} {e:List Int}: ∀(k:Nat) (n:Int),srchN f k n=some e-> ∃m,n<=m∧m<n+k∧f m=some e:=by
 intro k
 induction k with
 | zero=>intro n h;cases h
 | succ k ih=>
  intro n h;simp only [srchN] at h
  cases hf:f n with
  | some e'=>
   rw [hf] at h
   exact ⟨n,by omega,by omega,by rw [hf];exact h⟩
  | none=>
   rw [hf] at h;obtain ⟨m,m1,m2,m3⟩:=ih (n+1) h;exact ⟨m,by omega,by omega,m3⟩
theorem zK8 {S:Int} {H:List Int->Bool} (hS:1<=S) {e:List Int}: ∀(vs env:List Int),envOK S env=true->srch S.toNat H vs env=some e->envOK S e=true∧H e=false:=by
 intro vs
 induction vs with
 | nil=>
  intro env he h;simp only [srch] at h;split at h
  ·cases h
  ·rename_i hH;simp only [qI] at h;subst h
   exact ⟨he,by simpa using hH⟩
 | cons v r ih=>
  intro env he h;simp only [srch] at h;obtain ⟨m,m1,m2,m3⟩:=zG6 _ _ h;exact ih _ (zC3 he _ _ m1 (by omega)) m3
theorem set_same {l:List Int} {i:Nat} {x:Int} (h:l[i]?=some x):l.set i x=l:=by
 obtain ⟨hi,rfl⟩:=qW.1 h;exact List.set_getElem_self hi
theorem zC0 {S:Int} {e:List Int} (h:envOK S e=true):e.length=12:=by
 simp only [envOK,qq,qt] at h;exact h.1
def Vs (vs:List Int):Prop:=(∀v∈vs,0<=v∧v<=11)∧vs.Pairwise (· < ·)
theorem Vs.tail {v:Int} {r:List Int} (h:Vs (v::r)):(0<=v∧v<=11)∧Vs r∧ ∀u∈r,v.toNat≠u.toNat:=by
 obtain ⟨h1,h2⟩:=h;rw [List.pairwise_cons] at h2;have hv:=h1 v (by simp);refine ⟨hv,⟨fun u hu=>h1 u (by simp [hu]),h2.2⟩,fun u hu=>?_⟩;have:=h2.1 u hu;omega
def Zr (vs env:List Int):Prop:= ∀v∈vs,env[v.toNat]?=some 0
theorem Zr.set {v n:Int} {r env:List Int} (h:Zr (v::r) env) (hv:Vs (v::r)):Zr r (env.set v.toNat n):=by
 intro u hu;rw [List.getElem?_set_ne (hv.tail.2.2 u hu)];exact h u (by simp [hu])
noncomputable def fK:((List TLit×TSign×TWorld×List Int×List Int×Int×Unit)⊕(((List Int)×Bool×Unit)×(Unit)))->Option ((Unit)⊕(((List Int)×Bool×Unit)×(Unit))):=
 Sum.elim (fun y2=>(if (decide (y2.2.2.2.2.2.1<(0:Int)))=true then (some (.inr (([],false,()),()))) else (if 0<=y2.2.2.2.2.2.1∧y2.2.2.2.2.2.1<(List.length y2.2.2.2.1:Int) then ((y2.2.2.2.1[(Int.toNat y2.2.2.2.2.2.1)]?).bind fun x4=>(if 0<=x4∧x4<(List.length y2.2.2.2.2.1:Int) then ((y2.2.2.2.2.1[(Int.toNat x4)]?).bind fun x5=>(if 0<=x4∧x4<(List.length y2.2.2.2.2.1:Int) then ((y2.2.2.2.2.1[(Int.toNat x4)]?).bind fun x6=>(zcs M y2.1 (y2.2.1.1,()) (y2.2.2.1.1,y2.2.2.1.2.1,()) y2.2.2.2.1 (y2.2.2.2.2.1.set (Int.toNat x4) (IntKind.i64.wrap (x5+(1:Int)))))) else none)) else none)) else none))) (fun r3=>(some (.inr r3)))
def NX (s:TSign) (w:TWorld) (c:List TLit) (V p env:List Int) (R:List Int×Bool):Prop:= ∃y,zdH M c s w V env ((p.length:Int)-1)=some y∧fK y=some (.inr ((R.1,R.2,()),()))
section
variable (s : TSign) (hg : gS s.1 = true) (w : TWorld) (hw : wOK s.1 w = true) (c : List TLit) (hc : clOK s.1 c = true)
include hg hw hc
theorem zCT (V:List Int) (hV:Vs V) (hVl:V.length<=12): ∀(vs p:List Int),V=p++vs-> ∀(env:List Int) (R:List Int×Bool),envOK w.1 env=true->Zr vs env->(match srch w.1.toNat (hl s w c) vs env with | some e=>R=(e,true) | none=>NX s w c V p env R)->zcs M c s w V env=some (.inr ((R.1,R.2,()),())):=by
 obtain ⟨w1,w3,_,_⟩:=ztB hw;intro vs
 induction vs with
 | nil=>
  intro p hp env R he _ h;rw [qP] at hp;subst hp;simp only [srch] at h;apply zvU;simp only [zkf,zC,zbc,zI0 s hg w hw c hc env he,qa]
  cases hh:hl s w c env with
  | false=>
   rw [hh] at h;simp only [qg,qe] at h
   rw [h];rfl
  | true=>
   rw [hh] at h;simp only [qf] at h;obtain ⟨y,y1,y2⟩:=h;rw [qc (by simp),w64 (by omega) (by omega),y1];simp only [qa]
   exact y2
 | cons v r ih=>
  intro p hp env R he hz h
  have hvs:Vs (v::r):=by
   rw [hp] at hV;exact ⟨fun u hu=>hV.1 u (qr.2 (.inr hu)),(List.pairwise_append.1 hV.2).2.1⟩
  have h12:=zC0 he;obtain ⟨v0,hr,hne⟩:=hvs.tail;have hvz:=hz v (by simp);have hpl:p.length<V.length:=by rw [hp];simp
  have hVp:V[p.length]?=some v:=by rw [hp];simp
  simp only [srch] at h
  have key: ∀(k n:Nat),n+k=w.1.toNat->0<k->(match srchN (fun n=>srch w.1.toNat (hl s w c) r (env.set v.toNat n)) k n with | some e=>R=(e,true) | none=>NX s w c V p env R)->zcs M c s w V (env.set v.toNat (n:Int))=some (.inr ((R.1,R.2,()),())):=by
   intro k
   induction k with
   | zero=>intro n _ h0 _;omega
   | succ k ihk=>
    intro n hn _ hk;have hset:envOK w.1 (env.set v.toNat (n:Int))=true:=zC3 he _ _ (by omega) (by omega);have hx:(env.set v.toNat (n:Int))[v.toNat]?=some (n:Int):=by rw [List.getElem?_set_self (by omega)]
    have hwr:IntKind.i64.wrap (w.1-1)=w.1-1:=w64 (by omega) (by omega);refine ih (p++ [v]) (by simp [hp]) _ R hset (hz.set hvs) ?_;simp only [srchN] at hk
    cases hs:srch w.1.toNat (hl s w c) r (env.set v.toNat (n:Int)) with
    | some e=>rw [hs] at hk;exact hk
    | none=>
     rw [hs] at hk;show NX s w c V (p++ [v]) (env.set v.toNat (n:Int)) R;have hlen:(((p++ [v]).length:Nat):Int)-1=(p.length:Int):=by simp
     have h0k:0<=(p.length:Int)∧(p.length:Int)<(V.length:Int):=by omega
     have hvr:0<=v∧v<((env.set v.toNat (n:Int)).length:Int):=by rw [List.length_set];omega
     unfold NX;rw [hlen]
     cases k with
     | zero=>
      have hk:NX s w c V p env R:=hk;obtain ⟨y,y1,y2⟩:=hk;refine ⟨y,zi2 _ _ _ _ _ _ ?_,y2⟩;simp only [zdn];rw [qb (by simp),qb h0k,qo,hVp];simp only [qa];rw [qb hvr,hx];simp only [qa];rw [hwr,qb (by simp;omega)]
      try rw [qb h0k]
      try simp only [qa]
      try rw [qb hvr]
      simp only [qa,zC,zbc];rw [List.set_set,set_same hvz,w64 (by omega) (by omega)]
      exact y1
     | succ k=>
      refine ⟨.inl (c,s,w,V,env.set v.toNat (n:Int),(p.length:Int),()),zi2 _ _ _ _ _ _ ?_,?_⟩
      ·simp only [zdn];rw [qb (by simp),qb h0k,qo,hVp];simp only [qa];rw [qb hvr,hx];simp only [qa];rw [hwr,qc (by simp;omega)]
      ·simp only [fK,qd];rw [qc (by simp),qb h0k,qo,hVp];simp only [qa];rw [qb hvr,hx];simp only [qa,zC,zbc];rw [qb hvr,List.set_set,zb (by omega)];exact ihk (n+1) (by omega) (by omega) hk
  have:=key w.1.toNat 0 (by omega) (by omega) h;rw [e0x,set_same hvz] at this;exact this
end
def cv (c:List TLit):List Int:=upTo (inV (tms c))
theorem zHj (c:List TLit):Vs (cv c):=⟨fun v hv=>by have:=zjz.1 hv;omega,zCN _⟩
theorem zL1 (c:List TLit):(cv c).length<=12:=zxh _
def env0:List Int:=List.replicate 12 0
theorem zGh {S:Int} (h:1<=S):envOK S env0=true:=by
 simp only [envOK,elOK,env0,qq,qt,List.all_eq_true,List.length_replicate,List.mem_replicate,true_and]
 rintro x ⟨_,rfl⟩;omega
theorem zKK {vs:List Int} (h:Vs vs):Zr vs env0:=by
 intro v hv;have:=h.1 v hv;simp only [env0];rw [List.getElem?_replicate,qb (by omega)]
noncomputable def FA (s:TSign) (w:TWorld) (c:List TLit):List Int×Bool:=match srch w.1.toNat (hl s w c) (cv c) env0 with
 | some e=>(e,true)
 | none=>([],false)
theorem zMG (s:TSign) (w:TWorld) (hS:1<=w.1) (c:List TLit) (h:(FA s w c).2=true):envOK w.1 (FA s w c).1=true∧hl s w c (FA s w c).1=false:=by
 unfold FA at h ⊢
 cases hs:srch w.1.toNat (hl s w c) (cv c) env0 with
 | some e=>exact zK8 hS _ _ (zGh hS) hs
 | none=>rw [hs] at h;cases h
theorem zId {a:List Int} {c:List TLit} (hc:clOK a c=true):(tms c).length<=16∧ ∀t∈tms c,t.length<=40:=by
 obtain ⟨h8,hx⟩:=zsE hc;refine ⟨by rw [zkj];omega,fun t ht=>?_⟩;obtain ⟨x,hx1,h⟩:=zc3.1 ht;have:=hx x hx1;rcases h with rfl | rfl
 ·exact this.1
 ·exact this.2.1
theorem p_cv {a:List Int} {c:List TLit} (hc:clOK a c=true):zbO M c=some ((tms c,()),())∧zin M (tms c)=some ((cv c,()),()):=by
 obtain ⟨h8,hx⟩:=zsE hc;obtain ⟨t1,t2⟩:=zId hc;exact ⟨zoh c (by omega),zFa _ (by omega) (fun t ht=>by have:=t2 t ht;omega)⟩
section
variable (s : TSign) (hg : gS s.1 = true) (w : TWorld) (hw : wOK s.1 w = true) (c : List TLit) (hc : clOK s.1 c = true)
include hg hw hc
theorem zH6:zjS M s w c=some (((FA s w c).1,(FA s w c).2,()),()):=by
 obtain ⟨w1,w3,_,_⟩:=ztB hw;obtain ⟨t1,t2⟩:=p_cv hc;apply zyg;simp only [znf,zC,zbc,t1,t2,qa];rw [qb (by decide)]
 have:=zCT s hg w hw c hc (cv c) (zHj c) (zL1 c) (cv c) [] rfl env0 (FA s w c) (zGh w1) (zKK (zHj c)) (by
  unfold FA
  cases hs:srch w.1.toNat (hl s w c) (cv c) env0 with
  | some e=>rfl
  | none=>
   refine ⟨.inl (c,s,w,cv c,env0,-1,()),zi2 _ _ _ _ _ _ ?_,?_⟩
   ·simp only [zdn];rw [qc (by simp)];rfl
   ·simp only [fK,qd];rw [qb (by simp)])
 rw [show List.replicate (Int.toNat 12) (0:Int)=env0 from rfl,this];rfl
end
def ask (a:List Int) (c:List TLit):Bool:=clOK a c&&decide ((cv c).length<=6)
theorem zIT (s:TSign) (hg:gS s.1=true) (c:List TLit) (hl:c.length<=1048576):zj9 M s c=some ((ask s.1 c,()),()):=by
 apply zx5;simp only [zno,zC,zqZ s hg c hl,qa,ask]
 cases hc:clOK s.1 c with
 | false=>simp
 | true=>
  obtain ⟨t1,t2⟩:=p_cv hc;rw [qb rfl,t1];simp only [qa,t2,Bool.true_and];congr 3;exact decide_eq_decide.2 (by omega)
def smW (w:TWorld):Prop:=w.2.1.length<=1048576∧ ∀y∈w.2.1,smS y
theorem zAF (s:TSign) (hs:s.1.length<=1048576) (w:TWorld) (hw:smW w):zmh M s w=some ((gS s.1&&wOK s.1 w,()),()):=by
 apply zA2;simp only [zqd,zC,zbc,zku s (by omega),qa]
 cases hg:gS s.1 with
 | false=>rfl
 | true=>rw [qb rfl,zID s hg w hw.1 hw.2];rfl
noncomputable def rHI (s:TSign) (w:TWorld) (c:List TLit):(Bool×Bool×Unit)×Unit:=if (gS s.1&&wOK s.1 w&&ask s.1 c)=true then ((!(FA s w c).2,true,()),()) else ((false,false,()),())
theorem zGM (s:TSign) (hs:s.1.length<=1048576) (w:TWorld) (hw:smW w) (c:List TLit) (hc:c.length<=1048576):zcG M s w c=some (rHI s w c):=by
 apply zCk;simp only [zsN,zC,zbc,zAF s hs w hw,qa,rHI]
 cases h:gS s.1&&wOK s.1 w with
 | false=>simp
 | true=>
  have h':=h;simp only [qq] at h';rw [qc (by simp),zIT s h'.1 c hc];simp only [qa,Bool.true_and]
  cases ha:ask s.1 c with
  | false=>simp
  | true=>
   have hcl:clOK s.1 c=true:=by simp only [ask,qq] at ha;exact ha.1
   rw [qc (by simp),zH6 s h'.1 w h'.2 c hcl];simp
theorem zGU {f:Int->Option (List Int)}: ∀(k:Nat) (n:Int),srchN f k n=none-> ∀m,n<=m->m<n+k->f m=none:=by
 intro k
 induction k with
 | zero=>intro n _ m h1 h2;omega
 | succ k ih=>
  intro n h m h1 h2;simp only [srchN] at h
  cases hf:f n with
  | some e=>rw [hf] at h;cases h
  | none=>
   rw [hf] at h;by_cases hm:m=n
   ·rw [hm];exact hf
   ·exact ih (n+1) h m (by omega) (by omega)
theorem zIf {S:Int} {H:List Int->Bool}: ∀(vs env:List Int),Vs vs->env.length=12->srch S.toNat H vs env=none-> ∀env',envOK S env'=true->(∀k:Nat,k<12->(k:Int)∉vs->env'[k]?=env[k]?)->H env'=true:=by
 intro vs
 induction vs with
 | nil=>
  intro env _ hl h env' he hk
  have e:env'=env:=by
   refine List.ext_getElem? fun k=>?_
   by_cases h1:k<12
   ·exact hk k h1 (by simp)
   ·have:=zC0 he;rw [List.getElem?_eq_none (by omega),List.getElem?_eq_none (by omega)]
  subst e;simp only [srch] at h;split at h
  ·assumption
  ·cases h
 | cons v r ih=>
  intro env hv hl h env' he hk;obtain ⟨hv0,hr,hne⟩:=hv.tail;simp only [srch] at h;obtain ⟨n,n1,n2,n3⟩:=zqJ he v.toNat (by omega);have:=zGU _ _ h n n2 (by omega);refine ih (env.set v.toNat n) hr (by simpa using hl) this env' he fun k h1 h2=>?_
  by_cases hkv:k=v.toNat
  ·subst hkv;rw [n1,List.getElem?_set_self (by omega)]
  ·rw [List.getElem?_set_ne (fun q=>hkv q.symm)]
   exact hk k h1 (fun q=>by
    rcases qz.1 q with q | q
    ·exact hkv (by omega)
    ·exact h2 q)
theorem zMg {s:TSign} (hg:gS s.1=true) {w:TWorld} (hw:wOK s.1 w=true) {c:List TLit} (hc:clOK s.1 c=true):(FA s w c).2=false↔HOL s.1 w c:=by
 obtain ⟨w1,w3,_,_⟩:=ztB hw;constructor
 ·intro h env he
  have hs:srch w.1.toNat (hl s w c) (cv c) env0=none:=by
   unfold FA at h
   cases hs:srch w.1.toNat (hl s w c) (cv c) env0 with
   | some e=>rw [hs] at h;cases h
   | none=>rfl
  have hx:=(zm.1 hc).2
  have he2:envOK w.1 ((List.range 12).map fun (k:Nat)=>if (k:Int)∈cv c then (env[k]?).getD 0 else 0)=true:=by
   simp only [envOK,elOK,qq,qt,List.all_eq_true,qV,List.length_range,qQ,true_and]
   rintro x ⟨k,hk,rfl⟩
   rw [List.mem_range] at hk;split
   ·obtain ⟨v,v1,v2,v3⟩:=zqJ he k hk;rw [v1];exact ⟨v2,v3⟩
   ·exact ⟨Int.le_refl _,by omega⟩
  have:=zIf (cv c) env0 (zHj c) (by simp [env0]) hs _ he2 (fun k h1 h2=>by
   rw [List.getElem?_map,List.getElem?_range h1,qY,qc h2];simp only [env0];rw [List.getElem?_replicate,qb h1])
  have same: ∀x∈c,lhv s.1 w ((List.range 12).map fun (k:Nat)=>if (k:Int)∈cv c then (env[k]?).getD 0 else 0) x=lhv s.1 w env x:=by
   intro x hxc;obtain ⟨h1,h2⟩:=z8.1 (hx x hxc)
   have key: ∀t,t∈tms c->isT s.1 t=true->vl s.1 w ((List.range 12).map fun (k:Nat)=>if (k:Int)∈cv c then (env[k]?).getD 0 else 0) t=vl s.1 w env t:=by
    intro t ht hT;refine zLF hg w _ _ _ t (ql _) (zf.1 hT).2 fun n hn hn0=>?_
    have hr:=(zqM hT).2 n hn;have hk:(-1-n).toNat<12:=by omega
    have e1:(((-1-n).toNat:Nat):Int)= -1-n:=by omega
    have hm: -1-n∈cv c:=zjz.2 ⟨by omega,by omega,List.any_eq_true.2 ⟨t,ht,by simpa [show -1-(-1-n)=n by omega] using hn⟩⟩;rw [List.getElem?_map,List.getElem?_range hk,qY,e1,qb hm];obtain ⟨v,v1,_,_⟩:=zqJ he _ hk;rw [v1];rfl
   simp only [lhv,key x.2.1 (zc3.2 ⟨x,hxc,.inl rfl⟩) h1,key x.2.2.1 (zc3.2 ⟨x,hxc,.inr rfl⟩) h2]
  simp only [hl,List.any_eq_true] at this;obtain ⟨x,hxc,hv⟩:=this;simp only [hlv,List.any_eq_true];exact ⟨x,hxc,by rw [<-same x hxc];exact hv⟩
 ·intro h
  cases hb:(FA s w c).2 with
  | false=>rfl
  | true=>
   obtain ⟨e1,e2⟩:=zMG s w w1 c hb;have:=h _ e1;simp only [hl] at e2;simp only [hlv] at this;rw [show c.any (lhv s.1 w (FA s w c).1)=c.any (lh s w (FA s w c).1) from rfl,e2] at this;cases this
theorem zwd (s:TSign) (hs:s.1.length<=1048576) (w:TWorld) (hw:smW w) (c:List TLit) (hc:c.length<=1048576): ∃b ok:Bool,zcG M s w c=some ((b,ok,()),())∧(ok=true->gS s.1=true∧wOK s.1 w=true∧clOK s.1 c=true∧(b=true↔HOL s.1 w c)):=by
 have h:=zGM s hs w hw c hc;unfold rHI at h;split at h
 ·rename_i hq;simp only [qq,ask] at hq;refine ⟨_,_,h,fun _=>⟨hq.1.1,hq.1.2,hq.2.1,?_⟩⟩;rw [<-zMg hq.1.1 hq.1.2 hq.2.1];simp
 ·exact ⟨_,_,h,fun h=>by cases h⟩
section
variable (s : TSign) (hs : s.1.length <= 1048576) (w : TWorld) (hw : smW w)
include hs hw
theorem zGt (l:List (List TLit)) (hl:l.length<=1048576) (hc: ∀c∈l,c.length<=1048576): ∀(k i:Nat) (acc:Bool),i+k=l.length->
  zc8 M s w acc l l.length i=some (.inr ((false,false,()),()))∨ ∃b:Bool,zc8 M s w acc l l.length i=some (.inl (b,()))∧(b=true->acc=true∧ ∀c∈l.drop i,HOL s.1 w c):=by
 intro k
 induction k with
 | zero=>
  intro i acc hi;obtain rfl:i=l.length:=by omega
  refine .inr ⟨acc,zkW _ _ _ _ _ _ ?_,fun h=>⟨h,by simp⟩⟩;simp only [zfB]
  rw [qc (by simp)]
 | succ k ih=>
  intro i acc hi;have h:i<l.length:=by omega
  have hlt:decide ((i:Int)<(l.length:Int))=true:=by simp;omega
  obtain ⟨b,ok,e,hb⟩:=zwd s hs w hw l[i] (hc _ (qi h))
  cases ok with
  | false=>
   refine .inl (zkW _ _ _ _ _ _ ?_);simp only [zfB,hlt,qf,zd h,zC,zbc,e,qa]
   rfl
  | true=>
   have hb':=(hb rfl).2.2.2
   have step: ∀X,zc8 M s w (acc&&b) l l.length ((i+1:Nat):Int)=X->zfB M s w acc l l.length i=X:=by
    intro X hX;simp only [zfB,hlt,qf,zd h,zC,zbc,e,qa,qm,qg,qe];rw [zb (by omega)]
    cases acc with
    | true=>rw [qb rfl];simpa using hX
    | false=>rw [qc (by simp)];simpa using hX
   rcases ih (i+1) (acc&&b) (by omega) with h1 | ⟨b',h1,h2⟩
   ·exact .inl (zkW _ _ _ _ _ _ (step _ h1))
   ·refine .inr ⟨b',zkW _ _ _ _ _ _ (step _ h1),fun hb2=>?_⟩;obtain ⟨k1,k2⟩:=h2 hb2;simp only [qq] at k1;refine ⟨k1.1,fun c hc=>?_⟩;rw [qj h] at hc;rcases qz.1 hc with rfl | hc
    ·exact hb'.1 k1.2
    ·exact k2 c hc
theorem zC6 (l:List (List TLit)) (hl:l.length<=1048576) (hc: ∀c∈l,c.length<=1048576): ∃b ok:Bool,zg6 M s w l=some ((b,ok,()),())∧(b=true->ok=true-> ∀c∈l,HOL s.1 w c):=by
 rcases zGt s hs w hw l hl hc l.length 0 true (by omega) with h | ⟨b,h,k⟩
 ·rw [e0x] at h;refine ⟨false,false,zwZ _ _ _ ?_,fun h=>by cases h⟩;simp only [zox,zC,zbc,h,qa,qF]
 ·rw [e0x] at h;refine ⟨b,true,zwZ _ _ _ ?_,fun hb _=>by simpa using (k hb).2⟩;simp only [zox,zC,zbc,h,qa,qd]
end
theorem zMK (a b:List Int) (la:a.length<=9223372036854775807) (lb:b.length<=9223372036854775807):zqR M a b=some ((decide (1048576<a.length) || decide (1048576-(a.length:Int)<b.length),()),()):=by
 apply zHp;simp only [zxJ];by_cases h:1048576<a.length
 ·rw [qb (by simp;omega)];simp [h]
 ·rw [qc (by simp;omega),w64 (by omega) (by omega)];simp [h]
theorem zBe (a:List Int) (ha:a.length<=17592186044416): ∀k i:Nat,i+k=a.length->zhC M a a a.length i=some (.inl ()):=by
 intro k
 induction k with
 | zero=>
  intro i hi;apply zr9;simp only [zj0]
  rw [qc (by simp;omega)]
 | succ k ih=>
  intro i hi;have h1:i<a.length:=by omega
  apply zr9;simp only [zj0];rw [qb (by simpa using h1),zd h1,zb (by omega)];simp only [qa];rw [qc (by simp)];exact ih (i+1) (by omega)
theorem zuJ (a:List Int) (ha:a.length<=17592186044416):zeq M a a=some ((true,()),()):=by
 apply zBz;simp only [zqV];have:=zBe a ha a.length 0 (by omega);rw [e0x] at this;rw [qc (by simp),this];rfl
theorem zLm (s:TSign) (inputs:List (List TLit)) (steps:List TStep) (hs:steps.length<=1048576) (ps way:List Int) (hp:ps.length<=1048576) (rule:Int): ∀(k i:Nat) (o:List (List TLit)),i+k=ps.length->o.length<=i->ofN steps.length (ps.drop i)=false->zg7 M inputs steps rule way s o ps ps.length i=some (.inr failC):=by
 intro k
 induction k with
 | zero=>
  intro i o hi ho hb;obtain rfl:i=ps.length:=by omega
  rw [qG] at hb
  cases hb
 | succ k ih=>
  intro i o hi ho hb;have h:i<ps.length:=by omega
  rw [qj h] at hb;apply zo8;simp only [ziJ,za];rw [qb (by simpa using h),zd h,w64 (x:=(steps.length:Int)-1) (by omega) (by omega)];simp only [qa,zfw]
  cases hc:(decide (0<=ps[i])&&decide (ps[i]<=(steps.length:Int)-1)) with
  | false=>rfl
  | true=>
   simp only [qq,qt] at hc;obtain ⟨n,e,hn⟩:=zmO hc.1 (show ps[i]<(steps.length:Int) by omega)
   have hb':ofN steps.length (ps.drop (i+1))=false:=by
    simp only [ofN,qR] at hb;rw [qp hc.1,qp (show ps[i]<(steps.length:Int) by omega)] at hb;exact hb
   simp only [qm,qg,qe,e,zd hn,qa];rw [qb (by simp;omega),zb (by omega)];exact ih (i+1) _ (by omega) (by simp;omega) hb'
theorem zHl (s:TSign) (hs:s.1.length<=1048576) (inputs:List (List TLit)) (hi:inputs.length<=1048576) (hix: ∀c∈inputs,smC c) (steps:List TStep) (hl:steps.length<=1048576) (hx: ∀x∈steps,smP x) (rule:Int) (ps way:List Int) (hp:ps.length<=1048576) (hw:way.length<=1048576):
  ∃(x:TStep) (ok:Bool),zkQ M s inputs steps rule ps way=some ((x,ok,()),())∧zkY M s inputs steps rule ps way=some ((x,ok,()),())∧smP x∧(ok=true->gS s.1=true∧inOK s.1 inputs=true∧clS s.1 steps=true∧clOK s.1 x.2.2.2.1=true∧(∀k∈ps,0<=k∧k<(steps.length:Int))∧SndM s inputs steps ps x.2.2.2.1):=by
 have z0:smP ((0,[],[],[],()):TStep):=⟨by simp,by simp,by simp,by simp⟩;have gI:=zku s (show s.1.length<=17592186044416 by omega);have lS:=zBB s hs inputs hi hix
 cases hg:gS s.1 with
 | false=>
  rw [hg] at gI lS;rw [Bool.false_and] at lS;refine ⟨(0,[],[],[],()),false,zh2 _ _ _ _ _ _ ?_,zhZ _ _ _ _ _ _ ?_,z0,fun h=>by cases h⟩
  ·simp only [zem,za,gI,qa];rfl
  ·simp only [zej,za,lS,qa];rfl
 | true=>
 rw [hg] at gI lS;rw [Bool.true_and] at lS;have aI:=zFz s hg inputs hi hix
 cases hin:inOK s.1 inputs with
 | false=>
  rw [hin] at aI lS;refine ⟨(0,[],[],[],()),false,zh2 _ _ _ _ _ _ ?_,zhZ _ _ _ _ _ _ ?_,z0,fun h=>by cases h⟩
  ·simp only [zem,za,gI,aI,qa];rfl
  ·simp only [zej,za,lS,qa];rfl
 | true=>
 rw [hin] at aI lS
 have hic: ∀c∈inputs,clOK s.1 c=true:=by
  simp only [inOK,qq] at hin;exact List.all_eq_true.1 hin.2
 have sI:=zxG s hg steps hl hx;have sS:=zDi s hs hg steps hl hx
 cases hst:(decide (steps.length<=200)&&clS s.1 steps) with
 | false=>
  rw [hst] at sI sS;refine ⟨(0,[],[],[],()),false,zh2 _ _ _ _ _ _ ?_,zhZ _ _ _ _ _ _ ?_,z0,fun h=>by cases h⟩
  ·simp only [zem,za,gI,aI,sI,qa];rfl
  ·simp only [zej,za,lS,sS,qa];rfl
 | true=>
 rw [hst] at sI sS;simp only [qq] at hst;have hsc: ∀x∈steps,clOK s.1 x.2.2.2.1=true:=List.all_eq_true.1 hst.2;have oI:=zCf steps ps hp
 cases hof:ofN steps.length ps with
 | false=>
  rw [hof] at oI;have L:=zLm s inputs steps hl ps way hp rule ps.length 0 [] (by omega) (by simp) (by rw [qk];exact hof);rw [e0x] at L
  have m2:zm5 M s inputs steps rule ps way=some (failC):=by
   apply zas;simp only [zaf,za,L,qa,qF]
  have l2:zeU M s inputs steps rule ps way=some (((0,[],[],[],()),false,()),()):=by
   apply zmZ;simp only [zit,za,m2,qa];rfl
  refine ⟨(0,[],[],[],()),false,zh2 _ _ _ _ _ _ ?_,zhZ _ _ _ _ _ _ ?_,z0,fun h=>by cases h⟩
  ·simp only [zem,za,gI,aI,sI,oI,qa];rfl
  ·simp only [zej,za,lS,sS,l2,qa];rfl
 | true=>
 rw [hof] at oI
 have hps: ∀k∈ps,0<=k∧k<(steps.length:Int):=by
  intro k hk;have:=List.all_eq_true.1 hof k hk;simp only [qq,qt] at this;exact this
 obtain ⟨ok,C1,C2,m1,m2,m3⟩:=zHI s hg inputs hi hic steps hl hsc ps way hp hw hps rule
 cases ok with
 | false=>
  have l1:zgq M s inputs steps rule ps way=some (((0,[],[],[],()),false,()),()):=by
   apply zrP;simp only [zje,za,m1,qa];rfl
  have l2:zeU M s inputs steps rule ps way=some (((0,[],[],[],()),false,()),()):=by
   apply zmZ;simp only [zit,za,m2,qa];rfl
  refine ⟨(0,[],[],[],()),false,zh2 _ _ _ _ _ _ ?_,zhZ _ _ _ _ _ _ ?_,z0,fun h=>by cases h⟩
  ·simp only [zem,za,gI,aI,sI,oI,l1,qa];rfl
  ·simp only [zej,za,lS,sS,l2,qa];rfl
 | true=>
  obtain ⟨e,hC,hSn⟩:=m3 rfl;subst e;obtain ⟨q1,q2⟩:=zm.1 hC;have qs: ∀x∈C1,smL x:=fun x hx=>by have:=zbt (q2 x hx);exact ⟨by omega,by omega⟩
  have l1:zgq M s inputs steps rule ps way=some (((rule,ps,way,C1,()),true,()),()):=by
   apply zrP;simp only [zje,za,m1,qa];rw [qc (by simp),qb (by omega),qb (by omega)]
  have l2:zeU M s inputs steps rule ps way=some (((rule,ps,way,C1,()),true,()),()):=by
   apply zmZ;simp only [zit,za,m2,ziU ps hp,ziU way hw,qa];rfl
  refine ⟨(rule,ps,way,C1,()),true,zh2 _ _ _ _ _ _ ?_,zhZ _ _ _ _ _ _ ?_,⟨hp,hw,by show C1.length<=1048576;omega,qs⟩,fun _=>⟨rfl,rfl,hst.2,hC,hps,hSn⟩⟩
  ·simp only [zem,za,gI,aI,sI,oI,l1,qa];rfl
  ·simp only [zej,za,lS,sS,l2,qa];rfl
end Go.Proofs.YtchkojfhcdcnmaaGreatMd.Ev
