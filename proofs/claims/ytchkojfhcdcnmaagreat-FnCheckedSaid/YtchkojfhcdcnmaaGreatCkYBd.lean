/- Texts laid together: YAe, YBb, PLz, HIa, HIb, YBc, XAk, XAlz, XAmz, XAmw, XAly, QXr, PYby, YBd; no condition but those that each theorem names. -/
import Derived.Test.YtchkojfhcdcnmaaGreatCkXAkz
import Derived.Test.YtchkojfhcdcnmaaGreatCkQKa
import Derived.Test.YtchkojfhcdcnmaaGreatCkXAc
namespace Go.Proofs.YtchkojfhcdcnmaaGreatCk.Ev
open Go
set_option autoImplicit false
set_option linter.unusedVariables false
set_option linter.unusedSimpArgs false
section
variable (s : TSign) (hg : gS s.1 = true) (inputs : List (List TLit)) (hi : inputs.length <= 1048576) (hic : ∀ c ∈ inputs, clOK s.1 c = true)
include hg
theorem zDV (code:Int) (steps:List TStep) (hS:okS s.1 steps) (act ps:List Int) (hA:okA steps.length act) (n:Int) (c:List TLit): ∀(k i:Nat) (o:List (List TLit)),i+k=act.length->o.length<=i->(∀x∈o,clOK s.1 x=true)->
  ∃o':List (List TLit),zdf M2 (s.1,inputs,code,steps,act,ps,()) n c o act.length i=some (.inl ((s.1,inputs,code,steps,act,ps,()),n,c,o',()))∧o'.length<=1000∧ ∀x∈o',clOK s.1 x=true:=by
 have _:=hg
 intro k
 induction k with
 | zero=>
  intro i o hi hl hx;obtain rfl:i=act.length:=by omega
  have:=hA.1;refine ⟨o,zmx _ _ _ _ _ _ ?_,by omega,hx⟩;simp only [ze7]
  rw [qc (by simp)]
 | succ k ih=>
  intro i o hi hl hx;have h1:=hS.1;have hA1:=hA.1;have h:i<act.length:=by omega
  have hlt:decide ((i:Int)<(act.length:Int))=true:=by simp;omega
  have g1:0<=(i:Int)∧(i:Int)<(act.length:Int):=by omega
  obtain ⟨m,em,hm⟩:=zkL (hA.2 _ (qi h)).1 (hA.2 _ (qi h)).2;have e1:act[(i:Int).toNat]?=some (m:Int):=by rw [qo,qv h,em]
  have g2:0<=(m:Int)∧(m:Int)<(steps.length:Int):=by omega
  have e2:steps[(m:Int).toNat]?=some steps[m]:=by rw [qo,qv hm]
  obtain ⟨o',f1,f2,f3⟩:=ih (i+1) (o++ [steps[m].2.2.2.1]) (by omega) (by simp;omega) (fun x h'=>by
   rcases qt.1 h' with h' | h'
   ·exact hx x h'
   ·rw [qM.1 h'];exact (hS.2 _ (qi hm)).1)
  refine ⟨o',zmx _ _ _ _ _ _ ?_,f2,f3⟩;simp only [ze7,hlt,qf,qb g1,qb g2,e1,e2,qa];rw [qb (by simp;omega),zb (by omega)];exact f1
include hi hic
theorem zIU (code:Int) (steps:List TStep) (hS:okS s.1 steps) (act ps:List Int) (hP:okQ steps.length ps) (hA:act.length<=999∧ ∀k∈act,0<=k∧k<(steps.length:Int)) (n:Nat) (hn:n<steps.length):
  ∃(b:Bool) (code':Int) (steps':List TStep) (act' ps':List Int),ziZ M2 (s,inputs,(code,steps,act,()),ps,()) n=some ((b,()),((s,inputs,(code',steps',act',()),ps',()),()))∧Nxt s.1 steps steps' ps'∧act'.length<=act.length+1∧ ∀k∈act',0<=k∧k<(steps'.length:Int):=by
 have hA':okA steps.length act:=⟨by omega,hA.2⟩;obtain ⟨r,code1,steps1,f,k1,k2,k3⟩:=zFN s hg inputs hi hic code steps hS act ps hA' n hn;rcases k3 with hr | ⟨m,rfl,hm⟩
 ·refine ⟨false,code1,steps1,act,ps,ziS _ _ ?_,⟨k1,k2,hP.mono k2⟩,by omega,fun k hk=>by have:=hA.2 k hk;omega⟩;simp only [zd7,za,f,qp hr,qa];rfl
 ·have hr:decide ((m:Int)<0)=false:=by simp
  have g2:0<=(m:Int)∧(m:Int)<(steps1.length:Int):=by omega
  have e2:steps1[(m:Int).toNat]?=some steps1[m]:=by rw [qo,qv hm]
  have hA1:=hA'.mono k2;have hm1:=(k1.2 _ (qi hm)).1
  cases hz:((steps1[m].2.2.2.1.length:Int)==0) with
  | true=>
   refine ⟨false,1,steps1,act,ps,ziS _ _ ?_,⟨k1,k2,hP.mono k2⟩,by omega,hA1.2⟩
   simp only [zd7,za,f,hr,qb g2,e2,hz,qa,qg,qe,qf]
  | false=>
   obtain ⟨o,o1,o2,o3⟩:=zDV s hg inputs code1 steps1 k1 act ps hA1 m steps1[m].2.2.2.1 act.length 0 [] (by omega) (by simp) (by simp);rw [show ((0:Nat):Int)=0 from rfl] at o1;obtain ⟨rb,R0⟩:=zJ4 s hg steps1[m].2.2.2.1 hm1 o (by omega) o3;have R:zgK M2 s steps1[m].2.2.2.1 o=some ((rb,()),()):=upC R0
   cases rb with
   | true=>
    refine ⟨true,code1,steps1,act,ps,ziS _ _ ?_,⟨k1,k2,hP.mono k2⟩,by omega,hA1.2⟩
    simp only [zd7,za,f,hr,qb g2,e2,hz,o1,R,qa,qg,qe,qf,qd]
   | false=>
    obtain ⟨b,code2,steps2,act2,ps2,a1,⟨a2,a3,a4⟩,a5,a6⟩:=zKc s hg inputs hi hic code1 steps1 k1 act ps (hP.mono k2) ⟨by omega,hA1.2⟩ m hm;refine ⟨b,code2,steps2,act2,ps2,ziS _ _ ?_,⟨a2,by omega,a4⟩,a5,a6⟩;simp only [zd7,za,f,hr,qb g2,e2,hz,o1,R,a1,qa,qg,qe,qf,qd]
omit hg hi hic in
theorem zCS (n:Int) (l:List Int) (hl:l.length<=1000): ∀(k i:Nat) (o:List Int),i+k=l.length->o.length<=i->(∀x∈o,x∈l)->
  ∃o':List Int,zit M n o l l.length i=some (.inl (o',()))∧o'.length<=l.length∧ ∀x∈o',x∈l:=by
 intro k
 induction k with
 | zero=>
  intro i o hi ho hx;obtain rfl:i=l.length:=by omega
  refine ⟨o,znL _ _ _ _ _ ?_,by omega,hx⟩;simp only [zhP]
  rw [qc (by simp)]
 | succ k ih=>
  intro i o hi ho hx;have h:i<l.length:=by omega
  have hlt:decide ((i:Int)<(l.length:Int))=true:=by simp;omega
  cases hn:(l[i] !=n) with
  | true=>
   obtain ⟨o',f1,f2,f3⟩:=ih (i+1) (o++ [l[i]]) (by omega) (by simp;omega) (fun x h'=>by
    rcases qt.1 h' with h' | h'
    ·exact hx x h'
    ·rw [qM.1 h'];exact qi h)
   refine ⟨o',znL _ _ _ _ _ ?_,f2,f3⟩;simp only [zhP,hlt,qf,zd h,qa,hn];rw [qb (by simp;omega)];simp only [qa,qd];rw [zb (by omega)]
   exact f1
  | false=>
   obtain ⟨o',f1,f2,f3⟩:=ih (i+1) o (by omega) (by omega) hx;refine ⟨o',znL _ _ _ _ _ ?_,f2,f3⟩;simp only [zhP,hlt,qf,zd h,qa,hn,qg,qe,qd];rw [zb (by omega)];exact f1
omit hg hi hic in
theorem zHG (n:Int) (l:List Int) (hl:l.length<=1000): ∃o':List Int,zlQ M l n=some ((o',()),())∧o'.length<=l.length∧ ∀x∈o',x∈l:=by
 obtain ⟨o',f1,f2,f3⟩:=zCS n l hl l.length 0 [] (by omega) (by simp) (by simp);rw [show ((0:Nat):Int)=0 from rfl] at f1;refine ⟨o',zBt _ _ ?_,f2,f3⟩;simp only [zsF,f1,qa,qd]
def okR (a:List Int) (r:Int×List TStep×List Int×Unit):Prop:=okS a r.2.1∧ ∀k∈r.2.2.1,0<=k∧k<(r.2.1.length:Int)
theorem zG0 (fuel:Int) (hf:fuel<=40) (z:Int×List TStep×List Int×Unit): ∀(k n:Nat) (code:Int) (steps:List TStep) (act ps:List Int),fuel+1<=(n:Int)+k->n<=100->act.length+1<=n->okS s.1 steps->okQ steps.length ps->(∀k∈act,0<=k∧k<(steps.length:Int))->
  ∃r,zhx M2 fuel z (s.1,inputs,code,steps,act,ps,()) n=some (.inr ((r,()),()))∧okR s.1 r:=by
 intro k
 induction k with
 | zero=>
  intro n code steps act ps hn hn2 ha hS hP hA
  cases hz:((ps.length:Int)==0) with
  | true=>
   refine ⟨(2,steps,act,()),zeP _ _ _ _ ?_,hS,hA⟩
   simp only [zcp,hz,qf]
  | false=>
   refine ⟨(3,steps,act,()),zeP _ _ _ _ ?_,hS,hA⟩;simp only [zcp,hz,qg,qe]
   rw [qb (by simp;omega)]
 | succ k ih=>
  intro n code steps act ps hn hn2 ha hS hP hA;have h1:=hS.1;have hP1:=hP.1
  cases hz:((ps.length:Int)==0) with
  | true=>
   refine ⟨(2,steps,act,()),zeP _ _ _ _ ?_,hS,hA⟩
   simp only [zcp,hz,qf]
  | false=>
  have hp0:0<ps.length:=by
   have: ¬(ps.length:Int)=0:=by simpa using hz
   omega
  by_cases hfu:(n:Int)>fuel
  ·refine ⟨(3,steps,act,()),zeP _ _ _ _ ?_,hS,hA⟩;simp only [zcp,hz,qp hfu,qg,qe,qf]
  ·obtain ⟨pj,hj,ch0⟩:=zGY s steps (fun x hx=>(hS.2 x hx).1) ps (by omega) hP.2 (n:Int) hp0;have ch:zjB M2 steps ps n=some ((pj,()),()):=upC ch0;obtain ⟨ps1,d0,d1,d2⟩:=zHG pj ps (by omega);have d:zlQ M2 ps pj=some ((ps1,()),()):=upC d0;obtain ⟨m,em,hm⟩:=zkL (hP.2 _ hj).1 (hP.2 _ hj).2;rw [em] at ch d;have hP2:okQ steps.length ps1:=⟨by omega,fun x hx=>hP.2 x (d2 x hx)⟩;obtain ⟨b,code1,steps1,act1,ps2,a1,⟨a2,a3,a4⟩,a5,a6⟩:=zIU s hg inputs hi hic code steps hS act ps1 hP2 ⟨by omega,hA⟩ m hm;have hdf:decide ((n:Int)>fuel)=false:=qr hfu
   cases b with
   | false=>
    refine ⟨(code1,steps1,act1,()),zeP _ _ _ _ ?_,a2,a6⟩;simp only [zcp,za,hz,hdf,ch,d,a1,qa,qg,qe]
    rfl
   | true=>
    obtain ⟨r,r1,r2⟩:=ih (n+1) code1 steps1 act1 ps2 (by omega) (by omega) (by omega) a2 a4 a6;refine ⟨r,zeP _ _ _ _ ?_,r2⟩;simp only [zcp,za,hz,hdf,ch,d,a1,qa,qg,qe,qn];rw [zb (by omega)];exact r1
theorem zFU (k:Int): ∃(x:TStep) (ok:Bool),zlV M s inputs [] 1 [] [k]=some ((x,ok,()),())∧okX s.1 x:=by
 obtain ⟨ok,C1,C,_,e,hC⟩:=zFX s hg inputs hi hic [] (by simp) (by simp) [] [k] (by simp) (by simp) (by simp) 1
 cases ok with
 | false=>
  refine ⟨(0,[],[],[],()),false,zwr _ _ _ _ _ _ ?_,by simp [clOK],by simp,by simp⟩;simp only [zou,za,e,qa]
  rfl
 | true=>
  obtain ⟨rfl,h2,_⟩:=hC rfl;refine ⟨(1,[],[k],C1,()),true,zwr _ _ _ _ _ _ ?_,h2,by simp,by simp⟩;simp only [zou,za,e,qa,ziu [] (by simp),ziu [k] (by simp)];rfl
theorem zJo (fuel:Int) (z:Int×List TStep×List Int×Unit) (h12:inputs.length<=12): ∀(k i:Nat) (steps:List TStep) (ps:List Int),i+k=inputs.length->steps.length=i->okS s.1 steps->okQ i ps->
  ∃(steps':List TStep) (ps':List Int),zhF M2 inputs fuel s z (s.1,inputs,0,steps,[],ps,()) inputs.length i=some (.inl (fuel,z,(s.1,inputs,0,steps',[],ps',()),()))∧okS s.1 steps'∧okQ steps'.length ps':=by
 intro k
 induction k with
 | zero=>
  intro i steps ps hi' hl hS hP;obtain rfl:i=inputs.length:=by omega
  refine ⟨steps,ps,zrx _ _ _ _ _ _ _ ?_,hS,by rw [hl];exact hP⟩;simp only [zjQ]
  rw [qc (by simp)]
 | succ k ih=>
  intro i steps ps hi' hl hS hP;have hP1:=hP.1;have hlt:decide ((i:Int)<(inputs.length:Int))=true:=by simp;omega
  obtain ⟨x,ok,e0,hx⟩:=zFU s hg inputs hi hic i;have e:zlV M2 s inputs [] 1 [] [(i:Int)]=some ((x,ok,()),()):=upC e0
  obtain ⟨steps',ps',f1,f2,f3⟩:=ih (i+1) (steps++ [x]) (ps++ [(i:Int)]) (by omega) (by simp;omega) (hS.push (by omega) hx) ⟨by simp;omega,fun y hy=>by
   rcases qt.1 hy with hy | hy
   ·have:=hP.2 y hy;omega
   ·rw [qM.1 hy];omega⟩
  refine ⟨steps',ps',zrx _ _ _ _ _ _ _ ?_,f2,f3⟩;simp only [zjQ,za,zcz,hlt,qf,e,qa];rw [qb (by simp;omega),qb (by simp;omega),zb (by omega)];exact f1
theorem zFu (fuel:Int) (hf:fuel<=40) (h12:inputs.length<=12): ∃r,znn M2 s inputs fuel=some ((r,()),())∧okR s.1 r:=by
 obtain ⟨steps,ps,f1,f2,f3⟩:=zJo s hg inputs hi hic fuel (0,[],[],()) h12 inputs.length 0 [] [] (by omega) rfl ⟨by simp,by simp⟩ ⟨by simp,by simp⟩;rw [show ((0:Nat):Int)=0 from rfl] at f1;obtain ⟨r,r1,r2⟩:=zG0 s hg inputs hi hic fuel hf (0,[],[],()) 60 1 0 steps [] ps (by omega) (by omega) (by simp) f2 f3 (by simp);rw [show ((1:Nat):Int)=1 from rfl] at r1;refine ⟨r,zz9 _ _ _ ?_,r2⟩;simp only [zq6,za,f1,r1,qa,qd,qF]
end
theorem zIH (s:TSign) (hs:s.1.length<=1048576) (inputs:List (List TLit)) (hi:inputs.length<=1048576) (hix: ∀c∈inputs,smC c) (fuel:Int):
  ∃(r:Int×List TStep×List Int×Unit) (ok:Bool),zqm M2 s inputs fuel=some ((r,ok,()),())∧okR s.1 r∧(ok=true->gS s.1=true∧inOK s.1 inputs=true):=by
 have L:zfn M2 s inputs=some ((gS s.1&&inOK s.1 inputs,()),()):=upC (zwd s hs inputs hi hix);have I:zV M2 fuel 0 40=some ((decide (0<=fuel)&&decide (fuel<=40),()),()):=upC (zfq fuel 0 40)
 cases h1:(gS s.1&&inOK s.1 inputs) with
 | false=>
  refine ⟨(0,[],[],()),false,ztu _ _ _ ?_,⟨⟨by simp,by simp⟩,by simp⟩,fun h=>by cases h⟩;simp only [zmS,za,L,h1,qa]
  rfl
 | true=>
 cases h2:(decide (0<=fuel)&&decide (fuel<=40)) with
 | false=>
  refine ⟨(0,[],[],()),false,ztu _ _ _ ?_,⟨⟨by simp,by simp⟩,by simp⟩,fun h=>by cases h⟩;simp only [zmS,za,L,h1,I,h2,qa]
  rfl
 | true=>
  simp only [qq,qC] at h1 h2;obtain ⟨hg,hin⟩:=h1;have hin':=hin;simp only [inOK,qq,qC,List.all_eq_true] at hin';obtain ⟨r,r1,r2⟩:=zFu s hg inputs hi hin'.2 fuel h2.2 hin'.1;refine ⟨r,true,ztu _ _ _ ?_,r2,fun _=>⟨hg,hin⟩⟩;simp only [zmS,za,L,hg,hin,I,qp h2.1,qp h2.2,r1,qa];rfl
def stD (x:TStep):Prop:=x.2.1.length<=20∧x.2.2.1.length<=20∧x.2.2.2.1.length<=8∧ ∀l∈x.2.2.2.1,l.2.1.length<=100∧l.2.2.1.length<=100
theorem okX.stD {a:List Int} {x:TStep} (h:okX a x):stD x:=by
 obtain ⟨h1,h2,h3⟩:=h;obtain ⟨c1,c2⟩:=zq.1 h1;exact ⟨h2,h3,c1,fun l hl=>by have:=zci (c2 l hl);omega⟩
theorem stD.smP {x:TStep} (h:stD x):smP x:=⟨by have:=h.1;omega,by have:=h.2.1;omega,by have:=h.2.2.1;omega,fun l hl=>by have:=h.2.2.2 l hl;exact ⟨by omega,by omega⟩⟩
theorem zDE (l:List TStep) (hl:l.length<=1000) (hx: ∀x∈l,stD x): ∀(k i:Nat) (o:List TStep),i+k=l.length->o.length=i->zjt M o l l.length i=some (.inl (o++l.drop i,())):=by
 intro k
 induction k with
 | zero=>
  intro i o hi ho;obtain rfl:i=l.length:=by omega
  apply ztB;simp only [zld];rw [qc (by simp)]
  simp
 | succ k ih=>
  intro i o hi ho;have h:i<l.length:=by omega
  have hlt:decide ((i:Int)<(l.length:Int))=true:=by simp;omega
  have hxi:=hx _ (qi h);have o1:=ziu l[i].2.1 (by have:=hxi.1;omega);have o2:=ziu l[i].2.2.1 (by have:=hxi.2.1;omega);have o3:=zCO l[i].2.2.2.1 (by have:=hxi.2.2.1;omega) (fun y hy=>by have:=hxi.2.2.2 y hy;exact ⟨by omega,by omega⟩);apply ztB;simp only [zld,hlt,qf,zd h,o1,o2,o3,qa,zcz];rw [qb (by simp;omega),zb (by omega),ih (i+1) _ (by omega) (by simp;omega),qj h,qE];rfl
theorem zJc (l:List TStep) (hl:l.length<=1000) (hx: ∀x∈l,stD x):znb M l=some ((l,()),()):=by
 have L:=zDE l hl hx l.length 0 [] (by omega) rfl;rw [show ((0:Nat):Int)=0 from rfl,qk,qB] at L;apply zB0;simp only [zty,L,qa,qd]
section
variable {code : List Int} (hb : isBytes code)
include hb
def drD (r:(TSign×List (List TLit)×List TStep×Unit)):Prop:=SgD r.1.1∧r.2.1.length<=10∧(∀y∈r.2.1,smC y)∧r.2.2.1.length<=200∧ ∀x∈r.2.2.1,stD x
omit hb in
theorem zpl {l:List TStep} (hx: ∀x∈l,stD x) (n:Nat) {y:TStep} (hy:stD y): ∀x∈l.set n y,stD x:=fun x h=>by
 rcases List.mem_or_eq_of_mem_set h with h | rfl
 ·exact hx x h
 ·exact hy
theorem zGe {j:Int} (hj:j<=4000) {c:TCur} (hc:Cu code j c):Okk (fun r=>drD r.1∧Cu code (j+100000) r.2.1) (zh7 M2 c):=by
 refine Okk.lift ?_ (zwj c);simp only [zlw,zQ];refine Okk.bind (Okk.lift (zF4 hb hj hc) (fun h=>upC h)) ?_
 rintro ⟨⟨⟨s,⟨⟩⟩,inp,⟨⟩⟩,⟨c1,⟨⟩⟩⟩ ⟨s1,i1,i2,h1⟩
 simp only [zQ] at s1 i1 i2 h1 ⊢;refine Okk.bind (Okk.lift (zvA hb h1 [2,4,6,8,12] (by omega) (by simp) (by simp)) (fun h=>upC h)) ?_
 rintro ⟨⟨f,⟨⟩⟩,⟨c2,⟨⟩⟩⟩ ⟨_,h2⟩
 simp only [zQ] at h2 ⊢;obtain ⟨⟨r0,st,ac,⟨⟩⟩,ok,p1,⟨⟨p2,p3⟩,_⟩,_⟩:=zIH (s,()) (by have:=s1.1;simp only;omega) inp (by omega) i2 f;simp only at p2 p3;rw [p1];simp only [qa];have hx: ∀x∈st,stD x:=fun x h=>(p3 x h).stD
 have O:znb M2 st=some ((st,()),()):=upC (zJc st (by omega) hx);rw [O];simp only [qa];have fin: ∀(l:List TStep) (c':TCur) (i:Int),l.length<=200->(∀x∈l,stD x)->i<=j+100000->Cu code i c'->Okk (fun r:(TSign×List (List TLit)×List TStep×Unit)×TCur×Unit=>drD r.1∧Cu code (j+100000) r.2.1) (some (((s,()),inp,l,()),(c',()))):=fun l c' i hl hx hi hc=> .pure ⟨⟨s1,i1,i2,hl,hx⟩,hc.mono hi⟩
 by_cases h0:0<st.length
 case neg=>exact Okk.iteF (by simpa using h0) (fin st c2 _ p2 hx (by omega) h2)
 refine Okk.iteT (by simpa using h0) ?_;refine Okk.bind (Okk.lift (zp3 hb h2 2 (by omega) (by omega)) (fun h=>upC h)) ?_
 rintro ⟨⟨b,⟨⟩⟩,⟨c3,⟨⟩⟩⟩ h3
 simp only [zQ] at h3 ⊢;refine Okk.ite (fun _=>?_) fun _=>fin st c3 _ p2 hx (by omega) h3
 refine Okk.bind (Okk.lift (zei hb h3 (st.length:Int) (by omega) (by omega)) (fun h=>upC h)) ?_
 rintro ⟨⟨n,⟨⟩⟩,⟨c4,⟨⟩⟩⟩ ⟨n1,n2,h4⟩
 simp only [zQ] at n1 n2 h4 ⊢;obtain ⟨m,rfl⟩: ∃m:Nat,n=(m:Int):=⟨n.toNat,by omega⟩;have hm:m<st.length:=by omega
 have g1:0<=(m:Int)∧(m:Int)<(st.length:Int):=by omega
 have hxm:=hx _ (qi hm);have e1:st[(m:Int).toNat]?=some st[m]:=by rw [qo,qv hm]
 have e2: ∀y:TStep,(st.set (m:Int).toNat y)[(m:Int).toNat]?=some y:=fun y=>by rw [qo];simp [hm]
 refine Okk.bind (Okk.lift (zei hb h4 5 (by omega) (by omega)) (fun h=>upC h)) ?_
 rintro ⟨⟨q,⟨⟩⟩,⟨c5,⟨⟩⟩⟩ ⟨_,_,h5⟩
 simp only [zQ] at h5 ⊢;simp only [qb g1,e1,e2,qa,zcz];have hlen: ∀(y:TStep),(st.set (m:Int).toNat y).length<=200:=fun y=>by simpa using p2
 have hlen2: ∀(y z:TStep),((st.set (m:Int).toNat y).set (m:Int).toNat z).length<=200:=fun y z=>by simpa using p2
 refine Okk.ite (fun _=>?_) fun _=>Okk.ite (fun _=>?_) fun _=>Okk.ite (fun _=>?_) fun _=>Okk.ite (fun _=>?_) fun _=>?_
 ·refine Okk.bind (Okk.lift (zei hb h5 7 (by omega) (by omega)) (fun h=>upC h)) ?_
  rintro ⟨⟨w,⟨⟩⟩,⟨c6,⟨⟩⟩⟩ ⟨_,_,h6⟩
  simp only [zQ] at h6 ⊢;exact fin _ c6 _ (hlen _) (zpl hx _ hxm) (by omega) h6
 ·refine Okk.ite (fun hd=>?_) fun _=>fin _ c5 _ (hlen _) (zpl hx _ hxm) (by omega) h5
  refine Okk.bind (Okk.lift (zei hb h5 (st.length:Int) (by omega) (by omega)) (fun h=>upC h)) ?_
  rintro ⟨⟨w,⟨⟩⟩,⟨c6,⟨⟩⟩⟩ ⟨_,_,h6⟩
  simp only [zQ] at h6 ⊢;have hd':0<st[m].2.1.length:=by simpa using hd
  refine Okk.iteT (by omega) ?_;refine Okk.bind (Okk.get (l:=st[m].2.1) (i:=(0:Int).toNat) (by simpa using hd')) ?_;intro z _;exact fin _ c6 _ (hlen2 _ _) (zpl (zpl hx _ hxm) _ ⟨by simpa using hxm.1,hxm.2.1,hxm.2.2⟩) (by omega) h6
 ·refine Okk.ite (fun hd=>?_) fun _=>fin _ c5 _ (hlen _) (zpl hx _ hxm) (by omega) h5
  refine Okk.bind (Okk.lift (zei hb h5 3 (by omega) (by omega)) (fun h=>upC h)) ?_
  rintro ⟨⟨w,⟨⟩⟩,⟨c6,⟨⟩⟩⟩ ⟨_,_,h6⟩
  simp only [zQ] at h6 ⊢;have hd':0<st[m].2.2.1.length:=by simpa using hd
  refine Okk.iteT (by omega) ?_;refine Okk.bind (Okk.get (l:=st[m].2.2.1) (i:=(0:Int).toNat) (by simpa using hd')) ?_;intro z _;exact fin _ c6 _ (hlen2 _ _) (zpl (zpl hx _ hxm) _ ⟨hxm.1,by simpa using hxm.2.1,hxm.2.2⟩) (by omega) h6
 ·exact fin _ c5 _ (hlen _) (zpl hx _ ⟨hxm.1,hxm.2.1,by simp,by simp⟩) (by omega) h5
 ·rw [w64 (x:=(m:Int)+1) (by omega) (by omega),show (m:Int)+1=((m+1:Nat):Int) by omega];refine Okk.iteT (by omega) ?_;refine fin _ c5 _ (by simp;omega) (fun x h=>hx x ?_) (by omega) h5;exact List.mem_of_mem_take (List.mem_of_mem_drop h)
theorem zyE:Okk (fun r=>drD r.1) (zg1 M2 code):=by
 refine Okk.lift ?_ (zvw code);simp only [zkQ];refine Okk.bind (zGe hb (j:=0) (by omega) ⟨rfl,by simp,by simp⟩) ?_
 rintro ⟨⟨s,inp,st,⟨⟩⟩,⟨c1,⟨⟩⟩⟩ ⟨h,_⟩
 exact .pure h
end
theorem zz6 (s:Int) (h1:1<=s) (m:Nat) (hm:m<=1000): ∀(k i:Nat) (n:Int),i+k=m->0<=n->n*pw s k<=1000000->zhL M s n m i=some (.inl (n*pw s k,())):=by
 intro k
 induction k with
 | zero=>
  intro i n hi _ _;obtain rfl:i=m:=by omega
  apply zrB
  simp [zjU,pw]
 | succ k ih=>
  intro i n hi hn hb;obtain ⟨g0,g1,g2⟩:=zDc h1 hn hb;apply zrB;simp only [zjU];rw [qb (by simp<;>omega),w64 (x:=n*s) (by omega) (by omega),zb (by omega),ih (i+1) (n*s) (by omega) g0 g2,Int.mul_assoc];rfl
theorem zFV (s:Int) (h1:1<=s) (h3:s<=3) (k:Int) (k0:0<=k) (k3:k<=3):znr M s k=some ((pw s k.toNat,()),()):=by
 apply zAI;have:=zz6 s h1 k.toNat (by omega) k.toNat 0 1 (by omega) (by omega) (by have:=zBW h1 h3 (k:=k.toNat) (by omega);omega);rw [show ((k.toNat:Nat):Int)=k by omega,Int.one_mul,show ((0:Nat):Int)=0 from rfl] at this;simp only [zrg,this,qa,qd]
theorem zIe (x s:Int):zh0 M x s=some ((!(decide (0<=x)&&decide (x<s)),()),()):=by
 apply zvZ;simp only [zlp,qC];by_cases h:x<0
 ·rw [qb h];simp;omega
 ·rw [qc h];have h0:0<=x:=by omega
  rw [qp h0,Bool.true_and];by_cases h3:x<s
  ·rw [qp h3,qr (by omega)];rfl
  ·rw [qr h3,qp (by omega)];rfl
theorem zCx (s:Int) (a:List Int) (ha:a.length<=17592186044416): ∀k i:Nat,i+k=a.length-> ∃r,zab M a (s,()) a.length i=some r∧(match r with | .inl _=>(a.drop i).all (fun x=>decide (0<=x)&&decide (x<s))=true | .inr r=>0<=r.1.1∧(a.drop i).all (fun x=>decide (0<=x)&&decide (x<s))=false):=by
 intro k
 induction k with
 | zero=>
  intro i hi;obtain rfl:i=a.length:=by omega
  refine ⟨.inl (),zbt _ _ _ _ (by simp [zaa]),by simp⟩
 | succ k ih=>
  intro i hi;have h1:i<a.length:=by omega
  obtain ⟨r,hr,hm⟩:=ih (i+1) (by omega);rw [qj h1,qT];by_cases hp:(decide (0<=a[i])&&decide (a[i]<s))=true
  ·refine ⟨r,zbt _ _ _ _ ?_,by rw [hp,Bool.true_and];exact hm⟩;simp only [zaa];rw [qb (by simpa using h1),zd h1,zb (by omega)];simp only [qa,zIe,hp,qn,qg,qe];exact hr
  ·rw [Bool.not_eq_true] at hp;refine ⟨.inr (((i:Int),()),()),zbt _ _ _ _ ?_,Int.natCast_nonneg i,by rw [hp,Bool.false_and]⟩;simp only [zaa];rw [qb (by simpa using h1),zd h1];simp only [qa,zIe,hp,qU,qf]
theorem zDh (s:Int) (a:List Int) (ha:a.length<=17592186044416):zaJ M a (s,())=some ((!(a.all (fun x=>decide (0<=x)&&decide (x<s))),()),()):=by
 apply zii;simp only [zbz];obtain ⟨r,hr,hm⟩:=zCx s a ha a.length 0 (by omega);rw [show ((0:Nat):Int)=0 from rfl] at hr;rw [qk] at hm
 cases r with
 | inl r=>
  rw [zdJ a (s,()) (r:=((-1,()),())) (by simp only [zaX,hr,qa,qd])];simp only at hm
  simp [hm]
 | inr r=>
  rw [zdJ a (s,()) (r:=r) (by simp only [zaX,hr,qa,qF])];simp only at hm;simp [hm]
theorem zBG (s:Int) (l:List Int) (hl:l.length<=17592186044416):zjr M s l=some ((elOK s l,()),()):=by
 apply zw0;simp only [zmK,zDh s l hl,qa,Bool.not_not,elOK]
theorem zAo (s:TSign) (hg:gS s.1=true) (w:TWorld) (h1:1<=w.1) (h3:w.1<=3) (hl:w.2.1.length=s.1.length) (hx: ∀y∈w.2.1,smS y): ∀k i:Nat,i+k=w.2.1.length->zed M s w w.2.1 w.2.1.length i=some (if tabOK w.1 (s.1.drop i) (w.2.1.drop i)=true then .inl () else .inr ((false,()),())):=by
 obtain ⟨g1,g2⟩:=zFv hg;intro k
 induction k with
 | zero=>
  intro i hi;obtain rfl:i=w.2.1.length:=by omega
  apply znE
  simp [zfT,tabOK]
 | succ k ih=>
  intro i hi;have h0:i<w.2.1.length:=by omega
  have h0':i<s.1.length:=by omega
  have ha:=g2 _ (qi h0');have hy:=hx _ (qi h0);unfold smS at hy;apply znE;rw [qj h0,qj h0'];simp only [zfT];rw [qb (by simpa using h0),zd h0,zd h0',zb (by omega)];simp only [qa,zFV w.1 h1 h3 _ ha.1 ha.2,zBG w.1 _ (show (w.2.1[i]).length<=17592186044416 by omega),zap,zba,ih (i+1) (by omega)];by_cases e:((w.2.1[i]).length:Int)=pw w.1 (s.1[i]).toNat
  ·rw [qc (by simpa using e)];cases hE:elOK w.1 w.2.1[i]<;>simp [tabOK,e,hE]
  ·rw [qb (by simpa using e)];simp [tabOK,e]
theorem zGP (s:TSign) (hg:gS s.1=true) (w:TWorld) (hl:w.2.1.length<=1048576) (hx: ∀y∈w.2.1,smS y):ziQ M s w=some ((wOK s.1 w,()),()):=by
 have hsz:zov M w.1=some ((decide (1<=w.1)&&decide (w.1<=3),()),()):=by
  apply zBV;simp only [zso,qC];by_cases h:w.1>=1
  ·rw [qb h,qp h];simp
  ·rw [qc h,qr (by omega)];rfl
 apply zwv;simp only [zme,hsz,qa,zap,zba,wOK];by_cases h1:1<=w.1
 ·by_cases h3:w.1<=3
  ·rw [qc (by simp [h1,h3])];by_cases he:w.2.1.length=s.1.length
   ·have:=zAo s hg w h1 h3 he hx w.2.1.length 0 (by omega);rw [show ((0:Nat):Int)=0 from rfl,qk,qk] at this;rw [qc (by simp;omega),this];cases tabOK w.1 s.1 w.2.1<;>simp [h1,h3,he]
   ·rw [qb (by simp;omega)];simp [he]
  ·rw [qb (by simp [h3])];simp [h3]
 ·rw [qb (by simp [h1])];simp [h1]
theorem zBn {T u:List Int} {i:Nat} (h:T.drop i=u):u.length=T.length-i:=by rw [<-h,List.length_drop]
theorem zDt {T u x:List Int} {i:Nat} (h:T.drop i=u++x):T.drop (i+u.length)=x:=by
 rw [<-List.drop_drop,h,List.drop_left'];rfl
def IV (a:List Int) (w:TWorld) (env u:List Int):Prop:=0<=vl a w env u∧vl a w env u<w.1∧
 ∀(T x:List Int) (i:Nat),T.length<=1000->T.drop i=u++x->ziK M (a,()) w T i env=some ((vl a w env u,((i+u.length:Nat):Int),()),())
theorem zDm {a:List Int} {w:TWorld} {env:List Int} (h1:1<=w.1) (h3:w.1<=3): ∀(us:List (List Int)) (acc:Int) (j:Nat),(∀u∈us,IV a w env u)->j+us.length<=3->0<=acc->acc<pw w.1 j->0<=foldV w.1 acc (us.map (vl a w env))∧foldV w.1 acc (us.map (vl a w env))<pw w.1 (j+us.length)
 | [],acc,j,_,_,h0,hp=>⟨h0,hp⟩
 | u::us,acc,j,hu,hj,h0,hp=>by
  simp only [qD] at hj;have hv:=hu u (by simp);have hs:=zDg h1 h3 h0 hp (by have:=zBW h1 h3 (k:=j) (by omega);omega) hv.1 hv.2.1;have:=zDm h1 h3 us (acc*w.1+vl a w env u) (j+1) (fun v hv=>hu v (by simp [hv])) (by omega) hs.1 hs.2.1;simp only [qJ,foldV,List.foldl_cons,qD] at this ⊢;rw [show j+(us.length+1)=j+1+us.length by omega];exact this
theorem zFc {a:List Int} {w:TWorld} (h1:1<=w.1) (h3:w.1<=3) (env T:List Int) (hT:T.length<=1000) (n:Int) (cnt:Nat) (hc:cnt<=3): ∀(us:List (List Int)) (i p:Nat) (x:List Int) (acc:Int),(∀u∈us,IV a w env u)->i+us.length=cnt->T.drop p=us.flatten++x->0<=acc->acc<pw w.1 i->
  zfc M T env (a,()) w n acc p cnt i=some (.inl (w,n,foldV w.1 acc (us.map (vl a w env)),((p+us.flatten.length:Nat):Int),())):=by
 intro us
 induction us with
 | nil=>
  intro i p x acc _ hi _ _ _;apply zpv;simp at hi;subst hi
  simp [zhd,foldV]
 | cons u us ih=>
  intro i p x acc hu hi hd h0 hp;simp only [qD] at hi;simp only [List.flatten_cons,qE,qK] at hd ⊢;have hv:=hu u (by simp);have hs:=zDg h1 h3 h0 hp (by have:=zBW h1 h3 (k:=i) (by omega);omega) hv.1 hv.2.1;have hl:=zBn hd;apply zpv;simp only [zhd];rw [qb (by simp<;>omega),zba,hv.2.2 T (us.flatten++x) p hT hd];simp only [qa];rw [w64 (x:=acc*w.1) (by omega) (by omega),w64 (by have:=hv.1;omega) (by have:=hv.2.1;omega),zb (by omega),ih (i+1) (p+u.length) x _ (fun v hv=>hu v (by simp [hv])) (by omega) (zDt hd) hs.1 hs.2.1];simp [foldV,Nat.add_assoc]
theorem zJI {a:List Int} (hg:gS a=true) {w:TWorld} (hw:wOK a w=true) {env:List Int} (he:envOK w.1 env=true): ∀(N:Nat) (u:List Int),u.length<=N->N<=1000->Tm a u->IV a w env u:=by
 obtain ⟨h1,h3,hwl,hwt⟩:=zr1 hw;intro N
 induction N with
 | zero=>intro u hu _ h;have:=h.pos;omega
 | succ N ih=>
  intro u hu hN h;have bd:=zIo w env hg hw he h;refine ⟨bd.1,bd.2,?_⟩;obtain ⟨n,us,rfl,hb,hl,hk⟩:=h.parts hg;have hn:=zrq hg n;have hb':=hb;unfold badN at hb';simp only [qD] at hu
  have kid: ∀v∈us,IV a w env v:=fun v hv=>ih v (by
   have:v.length<=us.flatten.length:=(List.sublist_flatten_of_mem hv).length_le;omega) (by omega) (hk v hv)
  intro T x i hT hd;have hi:i<T.length:=by have:=zBn hd;simp at this;omega
  have hdc:=qj hi;rw [hd] at hdc;obtain ⟨hx,hdc⟩:=List.cons.inj hdc;apply zza;simp only [zoN];rw [zd hi,<-hx];simp only [qa];by_cases h0:n<0
  ·have h4:ar a n=0:=by simp [ar,h0]
   obtain rfl:us= []:=List.eq_nil_of_length_eq_zero (by omega);obtain ⟨v,v1,v2,v3⟩:=zo8 he (-1-n).toNat (by omega)
   have e2:idx env (-1-n)=some v:=by
    unfold idx;rw [qb (by omega),v1]
   rw [qb (by simpa using h0),w64 (x:= -1-n) (by omega) (by omega),e2,zb (by omega),List.flatten_nil,zvj w env h0,v1];simp
  ·have hfa:=zDm (a:=a) (env:=env) h1 h3 us 0 0 kid (by omega) (by omega) (by simp [pw]);rw [qI] at hfa;have hna:n.toNat<a.length:=by omega
   have hnt:n.toNat<w.2.1.length:=by omega
   have htab:=zwX n.toNat hna hnt hwt;have har:ar a n=a[n.toNat]:=by unfold ar;rw [qc h0,qv hna];rfl
   rw [<-har,<-hl,qo] at htab;have hin:(foldV w.1 0 (us.map (vl a w env))).toNat<(w.2.1[n.toNat]).length:=by omega
   have i1:idx w.2.1 n=some w.2.1[n.toNat]:=by unfold idx;rw [qb (by omega),qv hnt]
   have i2:idx w.2.1[n.toNat] (foldV w.1 0 (us.map (vl a w env)))=some (w.2.1[n.toNat])[(foldV w.1 0 (us.map (vl a w env))).toNat]:=by unfold idx;rw [qb (by omega),qv hin]
   have ev:vl a w env (n::us.flatten)=(w.2.1[n.toNat])[(foldV w.1 0 (us.map (vl a w env))).toNat]:=by
    rw [zrz hg w env h0 hl hk,qv hnt,qa,qv hin];rfl
   rw [qc (by simpa using h0),zDe (a,()) n hb,zb (by omega)];simp only [qa];rw [<-hl];have:=zFc (a:=a) h1 h3 env T hT n us.length (by omega) us 0 (i+1) x 0 kid (by omega) hdc.symm (by omega) (by simp [pw]);rw [show ((0:Nat):Int)=0 from rfl] at this;rw [zba,this];simp only [qa,qd];rw [i1];simp only [qa];rw [i2,ev];simp only [qa,qD];congr 4;omega
theorem zF9 (s:TSign) (hg:gS s.1=true) (w:TWorld) (hw:wOK s.1 w=true) (env:List Int) (he:envOK w.1 env=true) (u:List Int) (hu:isT s.1 u=true):zhR M s w u env=some ((vl s.1 w env u,()),()):=by
 simp only [isT,qq,qC] at hu;obtain ⟨_,_,v3⟩:=zJI hg hw he 40 u hu.1 (by omega) hu.2;have h3:=v3 u [] 0 (by omega) (by simp);rw [show ((0:Nat):Int)=0 from rfl] at h3;apply zyo;rw [zap] at h3;simp only [znO,zap,zba,h3,qa]
theorem zCn (x:TLit):(x.1,x.2.1,x.2.2.1,())=x:=rfl
noncomputable def lh (s:TSign) (w:TWorld) (env:List Int) (x:TLit):Bool:=lhv s.1 w env x
noncomputable def hl (s:TSign) (w:TWorld) (c:List TLit) (env:List Int):Bool:=c.any (lh s w env)
section
variable (s : TSign) (hg : gS s.1 = true) (w : TWorld) (hw : wOK s.1 w = true)
include hg hw
theorem zIk (env:List Int) (he:envOK w.1 env=true) (x:TLit) (hx:litOK s.1 x=true):zha M x s w env=some ((lh s w env x,()),()):=by
 simp only [litOK,qq] at hx;apply zvc;simp only [zkX,zap,zba,zF9 s hg w hw env he _ hx.1,zF9 s hg w hw env he _ hx.2,qa,lh,lhv]
end
theorem zCC (s:TSign) (hg:gS s.1=true) (w:TWorld) (hw:wOK s.1 w=true) (env:List Int) (he:envOK w.1 env=true) (a:List TLit) (ha:a.length<=17592186044416) (hx: ∀x∈a,litOK s.1 x=true): ∀k i:Nat,i+k=a.length-> ∃r,zB M a (s,w,env,()) a.length i=some r∧(match r with | .inl _=>(a.drop i).any (lh s w env)=false | .inr r=>0<=r.1.1∧(a.drop i).any (lh s w env)=true):=by
 intro k
 induction k with
 | zero=>
  intro i hi;obtain rfl:i=a.length:=by omega
  refine ⟨.inl (),zaM _ _ _ _ (by simp [zw]),by simp⟩
 | succ k ih=>
  intro i hi;have h1:i<a.length:=by omega
  have hox:=hx _ (qi h1);obtain ⟨r,hr,hm⟩:=ih (i+1) (by omega);rw [qj h1,List.any_cons];by_cases hp:(lh s w env) a[i]=true
  ·refine ⟨.inr (((i:Int),()),()),zaM _ _ _ _ ?_,Int.natCast_nonneg i,by rw [hp,Bool.true_or]⟩;simp only [zw];rw [qb (by simpa using h1),zd h1];simp only [qa,zCn,zIk s hg w hw env he _ hox,hp,qf]
  ·rw [Bool.not_eq_true] at hp;refine ⟨r,zaM _ _ _ _ ?_,by rw [hp,Bool.false_or];exact hm⟩;simp only [zw];rw [qb (by simpa using h1),zd h1,zb (by omega)];simp only [qa,zCn,zIk s hg w hw env he _ hox,hp,qg,qe];exact hr
theorem zB6 (s:TSign) (hg:gS s.1=true) (w:TWorld) (hw:wOK s.1 w=true) (env:List Int) (he:envOK w.1 env=true) (a:List TLit) (ha:a.length<=17592186044416) (hx: ∀x∈a,litOK s.1 x=true):z6 M a (s,w,env,())=some ((a.any (lh s w env),()),()):=by
 apply zfH;simp only [zaN];obtain ⟨r,hr,hm⟩:=zCC s hg w hw env he a ha hx a.length 0 (by omega);rw [show ((0:Nat):Int)=0 from rfl] at hr;rw [qk] at hm
 cases r with
 | inl r=>
  rw [zb9 a (s,w,env,()) (r:=((-1,()),())) (by simp only [zaj,hr,qa,qd])];simp only at hm
  simp [hm]
 | inr r=>
  rw [zb9 a (s,w,env,()) (r:=r) (by simp only [zaj,hr,qa,qF])];simp only at hm;simp [hm]
section
variable (s : TSign) (hg : gS s.1 = true) (w : TWorld) (hw : wOK s.1 w = true) (c : List TLit) (hc : clOK s.1 c = true)
include hg hw hc
omit hg hw in
theorem zER:c.length<=8∧ ∀x∈c,litOK s.1 x=true:=by
 simp only [clOK,qq,qC] at hc;exact ⟨hc.1,fun x hx=>(List.all_eq_true.1 hc.2) x hx⟩
theorem zFS (env:List Int) (he:envOK w.1 env=true):ziT M s w c env=some ((hl s w c env,()),()):=by
 obtain ⟨c8,hx⟩:=zER s c hc;apply zwK;simp only [zl9,zap,zba,zB6 s hg w hw env he c (by omega) hx,qa,hl]
end
def srchN (f:Int->Option (List Int)):Nat->Int->Option (List Int)
 | 0,_=>none
 | k+1,n=>match f n with
  | some e=>some e
  | none=>srchN f k (n+1)
def srch (S:Nat) (H:List Int->Bool):List Int->List Int->Option (List Int)
 | [],env=>if H env=true then none else some env
 | v::r,env=>srchN (fun n=>srch S H r (env.set v.toNat n)) S 0
theorem zEM {f:Int->Option (List Int)} {e:List Int}: ∀(k:Nat) (n:Int),srchN f k n=some e-> ∃m,n<=m∧m<n+k∧f m=some e:=by
 intro k
 induction k with
 | zero=>intro n h;cases h
 | succ k ih=>
  intro n h;simp only [srchN] at h
  cases hf:f n with
  | some e'=>
   rw [hf] at h
   exact ⟨n,by omega,by omega,by rw [hf];exact h⟩
  | none=>
   rw [hf] at h;obtain ⟨m,m1,m2,m3⟩:=ih (n+1) h;exact ⟨m,by omega,by omega,m3⟩
theorem zJe {S:Int} {H:List Int->Bool} (hS:1<=S) {e:List Int}: ∀(vs env:List Int),envOK S env=true->srch S.toNat H vs env=some e->envOK S e=true∧H e=false:=by
 intro vs
 induction vs with
 | nil=>
  intro env he h;simp only [srch] at h;split at h
  ·cases h
  ·rename_i hH;simp only [qH] at h;subst h
   exact ⟨he,by simpa using hH⟩
 | cons v r ih=>
  intro env he h;simp only [srch] at h;obtain ⟨m,m1,m2,m3⟩:=zEM _ _ h;exact ih _ (zBj he _ _ m1 (by omega)) m3
theorem set_same {l:List Int} {i:Nat} {x:Int} (h:l[i]?=some x):l.set i x=l:=by
 obtain ⟨hi,rfl⟩:=qW.1 h;exact List.set_getElem_self hi
theorem zBl {S:Int} {e:List Int} (h:envOK S e=true):e.length=12:=by
 simp only [envOK,qq,qC] at h;exact h.1
def Vs (vs:List Int):Prop:=(∀v∈vs,0<=v∧v<=11)∧vs.Pairwise (· < ·)
theorem Vs.tail {v:Int} {r:List Int} (h:Vs (v::r)):(0<=v∧v<=11)∧Vs r∧ ∀u∈r,v.toNat≠u.toNat:=by
 obtain ⟨h1,h2⟩:=h;rw [List.pairwise_cons] at h2;have hv:=h1 v (by simp);refine ⟨hv,⟨fun u hu=>h1 u (by simp [hu]),h2.2⟩,fun u hu=>?_⟩;have:=h2.1 u hu;omega
def Zr (vs env:List Int):Prop:= ∀v∈vs,env[v.toNat]?=some 0
theorem Zr.set {v n:Int} {r env:List Int} (h:Zr (v::r) env) (hv:Vs (v::r)):Zr r (env.set v.toNat n):=by
 intro u hu;rw [List.getElem?_set_ne (hv.tail.2.2 u hu)];exact h u (by simp [hu])
noncomputable def fK:((List TLit×TSign×TWorld×List Int×List Int×Int×Unit)⊕(((List Int)×Bool×Unit)×(Unit)))->Option ((Unit)⊕(((List Int)×Bool×Unit)×(Unit))):=
 Sum.elim (fun y2=>(if (decide (y2.2.2.2.2.2.1<(0:Int)))=true then (some (.inr (([],false,()),()))) else (if 0<=y2.2.2.2.2.2.1∧y2.2.2.2.2.2.1<(List.length y2.2.2.2.1:Int) then ((y2.2.2.2.1[(Int.toNat y2.2.2.2.2.2.1)]?).bind fun x4=>(if 0<=x4∧x4<(List.length y2.2.2.2.2.1:Int) then ((y2.2.2.2.2.1[(Int.toNat x4)]?).bind fun x5=>(if 0<=x4∧x4<(List.length y2.2.2.2.2.1:Int) then ((y2.2.2.2.2.1[(Int.toNat x4)]?).bind fun x6=>(zb5 M y2.1 (y2.2.1.1,()) (y2.2.2.1.1,y2.2.2.1.2.1,()) y2.2.2.2.1 (y2.2.2.2.2.1.set (Int.toNat x4) (IntKind.i64.wrap (x5+(1:Int)))))) else none)) else none)) else none))) (fun r3=>(some (.inr r3)))
def NX (s:TSign) (w:TWorld) (c:List TLit) (V p env:List Int) (R:List Int×Bool):Prop:= ∃y,zdg M c s w V env ((p.length:Int)-1)=some y∧fK y=some (.inr ((R.1,R.2,()),()))
section
variable (s : TSign) (hg : gS s.1 = true) (w : TWorld) (hw : wOK s.1 w = true) (c : List TLit) (hc : clOK s.1 c = true)
include hg hw hc
theorem zAb (V:List Int) (hV:Vs V) (hVl:V.length<=12): ∀(vs p:List Int),V=p++vs-> ∀(env:List Int) (R:List Int×Bool),envOK w.1 env=true->Zr vs env->(match srch w.1.toNat (hl s w c) vs env with | some e=>R=(e,true) | none=>NX s w c V p env R)->zb5 M c s w V env=some (.inr ((R.1,R.2,()),())):=by
 obtain ⟨w1,w3,_,_⟩:=zr1 hw;intro vs
 induction vs with
 | nil=>
  intro p hp env R he _ h;rw [qO] at hp;subst hp;simp only [srch] at h;apply zup;simp only [zje,zap,zba,zFS s hg w hw c hc env he,qa]
  cases hh:hl s w c env with
  | false=>
   rw [hh] at h;simp only [qg,qe] at h
   rw [h];rfl
  | true=>
   rw [hh] at h;simp only [qf] at h;obtain ⟨y,y1,y2⟩:=h;rw [qc (by simp),w64 (by omega) (by omega),y1];simp only [qa]
   exact y2
 | cons v r ih=>
  intro p hp env R he hz h
  have hvs:Vs (v::r):=by
   rw [hp] at hV;exact ⟨fun u hu=>hV.1 u (qt.2 (.inr hu)),(List.pairwise_append.1 hV.2).2.1⟩
  have h12:=zBl he;obtain ⟨v0,hr,hne⟩:=hvs.tail;have hvz:=hz v (by simp);have hpl:p.length<V.length:=by rw [hp];simp
  have hVp:V[p.length]?=some v:=by rw [hp];simp
  simp only [srch] at h
  have key: ∀(k n:Nat),n+k=w.1.toNat->0<k->(match srchN (fun n=>srch w.1.toNat (hl s w c) r (env.set v.toNat n)) k n with | some e=>R=(e,true) | none=>NX s w c V p env R)->zb5 M c s w V (env.set v.toNat (n:Int))=some (.inr ((R.1,R.2,()),())):=by
   intro k
   induction k with
   | zero=>intro n _ h0 _;omega
   | succ k ihk=>
    intro n hn _ hk;have hset:envOK w.1 (env.set v.toNat (n:Int))=true:=zBj he _ _ (by omega) (by omega);have hx:(env.set v.toNat (n:Int))[v.toNat]?=some (n:Int):=by rw [List.getElem?_set_self (by omega)]
    have hwr:IntKind.i64.wrap (w.1-1)=w.1-1:=w64 (by omega) (by omega);refine ih (p++ [v]) (by simp [hp]) _ R hset (hz.set hvs) ?_;simp only [srchN] at hk
    cases hs:srch w.1.toNat (hl s w c) r (env.set v.toNat (n:Int)) with
    | some e=>rw [hs] at hk;exact hk
    | none=>
     rw [hs] at hk;show NX s w c V (p++ [v]) (env.set v.toNat (n:Int)) R;have hlen:(((p++ [v]).length:Nat):Int)-1=(p.length:Int):=by simp
     have h0k:0<=(p.length:Int)∧(p.length:Int)<(V.length:Int):=by omega
     have hvr:0<=v∧v<((env.set v.toNat (n:Int)).length:Int):=by rw [List.length_set];omega
     unfold NX;rw [hlen]
     cases k with
     | zero=>
      have hk:NX s w c V p env R:=hk;obtain ⟨y,y1,y2⟩:=hk;refine ⟨y,zhS _ _ _ _ _ _ ?_,y2⟩;simp only [zc2];rw [qb (by simp),qb h0k,qo,hVp];simp only [qa];rw [qb hvr,hx];simp only [qa];rw [hwr,qb (by simp;omega)]
      try rw [qb h0k]
      try simp only [qa]
      try rw [qb hvr]
      simp only [qa,zap,zba];rw [List.set_set,set_same hvz,w64 (by omega) (by omega)]
      exact y1
     | succ k=>
      refine ⟨.inl (c,s,w,V,env.set v.toNat (n:Int),(p.length:Int),()),zhS _ _ _ _ _ _ ?_,?_⟩
      ·simp only [zc2];rw [qb (by simp),qb h0k,qo,hVp];simp only [qa];rw [qb hvr,hx];simp only [qa];rw [hwr,qc (by simp;omega)]
      ·simp only [fK,qd];rw [qc (by simp),qb h0k,qo,hVp];simp only [qa];rw [qb hvr,hx];simp only [qa,zap,zba];rw [qb hvr,List.set_set,zb (by omega)];exact ihk (n+1) (by omega) (by omega) hk
  have:=key w.1.toNat 0 (by omega) (by omega) h;rw [show ((0:Nat):Int)=0 from rfl,set_same hvz] at this;exact this
end
def cv (c:List TLit):List Int:=upTo (inV (tms c))
theorem zE8 (c:List TLit):Vs (cv c):=⟨fun v hv=>by have:=ziD.1 hv;omega,zAW _⟩
theorem zJP (c:List TLit):(cv c).length<=12:=zvT _
def env0:List Int:=List.replicate 12 0
theorem zEp {S:Int} (h:1<=S):envOK S env0=true:=by
 simp only [envOK,elOK,env0,qq,qC,List.all_eq_true,List.length_replicate,List.mem_replicate,true_and]
 rintro x ⟨_,rfl⟩;omega
theorem zI2 {vs:List Int} (h:Vs vs):Zr vs env0:=by
 intro v hv;have:=h.1 v hv;simp only [env0];rw [List.getElem?_replicate,qb (by omega)]
noncomputable def FA (s:TSign) (w:TWorld) (c:List TLit):List Int×Bool:=match srch w.1.toNat (hl s w c) (cv c) env0 with
 | some e=>(e,true)
 | none=>([],false)
theorem zKl (s:TSign) (w:TWorld) (hS:1<=w.1) (c:List TLit) (h:(FA s w c).2=true):envOK w.1 (FA s w c).1=true∧hl s w c (FA s w c).1=false:=by
 unfold FA at h ⊢
 cases hs:srch w.1.toNat (hl s w c) (cv c) env0 with
 | some e=>exact zJe hS _ _ (zEp hS) hs
 | none=>rw [hs] at h;cases h
theorem zFB {a:List Int} {c:List TLit} (hc:clOK a c=true):(tms c).length<=16∧ ∀t∈tms c,t.length<=40:=by
 obtain ⟨h8,hx⟩:=zq7 hc;refine ⟨by rw [zkE];omega,fun t ht=>?_⟩;obtain ⟨x,hx1,h⟩:=zdb.1 ht;have:=hx x hx1;rcases h with rfl | rfl
 ·exact this.1
 ·exact this.2.1
theorem p_cv {a:List Int} {c:List TLit} (hc:clOK a c=true):zbS M c=some ((tms c,()),())∧zhp M (tms c)=some ((cv c,()),()):=by
 obtain ⟨h8,hx⟩:=zq7 hc;obtain ⟨t1,t2⟩:=zFB hc;exact ⟨zpn c (by omega),zCc _ (by omega) (fun t ht=>by have:=t2 t ht;omega)⟩
section
variable (s : TSign) (hg : gS s.1 = true) (w : TWorld) (hw : wOK s.1 w = true) (c : List TLit) (hc : clOK s.1 c = true)
include hg hw hc
theorem zFR:ziY M s w c=some (((FA s w c).1,(FA s w c).2,()),()):=by
 obtain ⟨w1,w3,_,_⟩:=zr1 hw;obtain ⟨t1,t2⟩:=p_cv hc;apply zwQ;simp only [zmi,zap,zba,t1,t2,qa];rw [qb (by decide)]
 have:=zAb s hg w hw c hc (cv c) (zE8 c) (zJP c) (cv c) [] rfl env0 (FA s w c) (zEp w1) (zI2 (zE8 c)) (by
  unfold FA
  cases hs:srch w.1.toNat (hl s w c) (cv c) env0 with
  | some e=>rfl
  | none=>
   refine ⟨.inl (c,s,w,cv c,env0,-1,()),zhS _ _ _ _ _ _ ?_,?_⟩
   ·simp only [zc2];rw [qc (by simp)];rfl
   ·simp only [fK,qd];rw [qb (by simp)])
 rw [show List.replicate (Int.toNat 12) (0:Int)=env0 from rfl,this];rfl
end
def ask (a:List Int) (c:List TLit):Bool:=clOK a c&&decide ((cv c).length<=6)
theorem zGT (s:TSign) (hg:gS s.1=true) (c:List TLit) (hl:c.length<=1048576):ziM M s c=some ((ask s.1 c,()),()):=by
 apply zwC;simp only [zmk,zap,zvX s hg c hl,qa,ask]
 cases hc:clOK s.1 c with
 | false=>simp
 | true=>
  obtain ⟨t1,t2⟩:=p_cv hc;rw [qb rfl,t1];simp only [qa,t2,Bool.true_and];congr 3;exact decide_eq_decide.2 (by omega)
def smW (w:TWorld):Prop:=w.2.1.length<=1048576∧ ∀y∈w.2.1,smS y
theorem zy3 (s:TSign) (hs:s.1.length<=1048576) (w:TWorld) (hw:smW w):zlv M s w=some ((gS s.1&&wOK s.1 w,()),()):=by
 apply zzc;simp only [zo2,zap,zba,zpM s (by omega),qa]
 cases hg:gS s.1 with
 | false=>rfl
 | true=>rw [qb rfl,zGP s hg w hw.1 hw.2];rfl
noncomputable def rHI (s:TSign) (w:TWorld) (c:List TLit):(Bool×Bool×Unit)×Unit:=if (gS s.1&&wOK s.1 w&&ask s.1 c)=true then ((!(FA s w c).2,true,()),()) else ((false,false,()),())
theorem zEZ (s:TSign) (hs:s.1.length<=1048576) (w:TWorld) (hw:smW w) (c:List TLit) (hc:c.length<=1048576):zge M s w c=some (rHI s w c):=by
 apply zAK;simp only [zqV,zap,zba,zy3 s hs w hw,qa,rHI]
 cases h:gS s.1&&wOK s.1 w with
 | false=>simp
 | true=>
  have h':=h;simp only [qq] at h';rw [qc (by simp),zGT s h'.1 c hc];simp only [qa,Bool.true_and]
  cases ha:ask s.1 c with
  | false=>simp
  | true=>
   have hcl:clOK s.1 c=true:=by simp only [ask,qq] at ha;exact ha.1
   rw [qc (by simp),zFR s h'.1 w h'.2 c hcl];simp
theorem zE3 {f:Int->Option (List Int)}: ∀(k:Nat) (n:Int),srchN f k n=none-> ∀m,n<=m->m<n+k->f m=none:=by
 intro k
 induction k with
 | zero=>intro n _ m h1 h2;omega
 | succ k ih=>
  intro n h m h1 h2;simp only [srchN] at h
  cases hf:f n with
  | some e=>rw [hf] at h;cases h
  | none=>
   rw [hf] at h;by_cases hm:m=n
   ·rw [hm];exact hf
   ·exact ih (n+1) h m (by omega) (by omega)
theorem zGG {S:Int} {H:List Int->Bool}: ∀(vs env:List Int),Vs vs->env.length=12->srch S.toNat H vs env=none-> ∀env',envOK S env'=true->(∀k:Nat,k<12->(k:Int)∉vs->env'[k]?=env[k]?)->H env'=true:=by
 intro vs
 induction vs with
 | nil=>
  intro env _ hl h env' he hk
  have e:env'=env:=by
   refine List.ext_getElem? fun k=>?_
   by_cases h1:k<12
   ·exact hk k h1 (by simp)
   ·have:=zBl he;rw [List.getElem?_eq_none (by omega),List.getElem?_eq_none (by omega)]
  subst e;simp only [srch] at h;split at h
  ·assumption
  ·cases h
 | cons v r ih=>
  intro env hv hl h env' he hk;obtain ⟨hv0,hr,hne⟩:=hv.tail;simp only [srch] at h;obtain ⟨n,n1,n2,n3⟩:=zo8 he v.toNat (by omega);have:=zE3 _ _ h n n2 (by omega);refine ih (env.set v.toNat n) hr (by simpa using hl) this env' he fun k h1 h2=>?_
  by_cases hkv:k=v.toNat
  ·subst hkv;rw [n1,List.getElem?_set_self (by omega)]
  ·rw [List.getElem?_set_ne (fun q=>hkv q.symm)]
   exact hk k h1 (fun q=>by
    rcases qA.1 q with q | q
    ·exact hkv (by omega)
    ·exact h2 q)
theorem zJE {s:TSign} (hg:gS s.1=true) {w:TWorld} (hw:wOK s.1 w=true) {c:List TLit} (hc:clOK s.1 c=true):(FA s w c).2=false↔HOL s.1 w c:=by
 obtain ⟨w1,w3,_,_⟩:=zr1 hw;constructor
 ·intro h env he
  have hs:srch w.1.toNat (hl s w c) (cv c) env0=none:=by
   unfold FA at h
   cases hs:srch w.1.toNat (hl s w c) (cv c) env0 with
   | some e=>rw [hs] at h;cases h
   | none=>rfl
  have hx:=(zq.1 hc).2
  have he2:envOK w.1 ((List.range 12).map fun (k:Nat)=>if (k:Int)∈cv c then (env[k]?).getD 0 else 0)=true:=by
   simp only [envOK,elOK,qq,qC,List.all_eq_true,qV,List.length_range,qP,true_and]
   rintro x ⟨k,hk,rfl⟩
   rw [List.mem_range] at hk;split
   ·obtain ⟨v,v1,v2,v3⟩:=zo8 he k hk;rw [v1];exact ⟨v2,v3⟩
   ·exact ⟨Int.le_refl _,by omega⟩
  have:=zGG (cv c) env0 (zE8 c) (by simp [env0]) hs _ he2 (fun k h1 h2=>by
   rw [List.getElem?_map,List.getElem?_range h1,wa,qc h2];simp only [env0];rw [List.getElem?_replicate,qb h1])
  have same: ∀x∈c,lhv s.1 w ((List.range 12).map fun (k:Nat)=>if (k:Int)∈cv c then (env[k]?).getD 0 else 0) x=lhv s.1 w env x:=by
   intro x hxc;obtain ⟨h1,h2⟩:=zW.1 (hx x hxc)
   have key: ∀t,t∈tms c->isT s.1 t=true->vl s.1 w ((List.range 12).map fun (k:Nat)=>if (k:Int)∈cv c then (env[k]?).getD 0 else 0) t=vl s.1 w env t:=by
    intro t ht hT;refine zIz hg w _ _ _ t (ql _) (ze.1 hT).2 fun n hn hn0=>?_
    have hr:=(zo4 hT).2 n hn;have hk:(-1-n).toNat<12:=by omega
    have e1:(((-1-n).toNat:Nat):Int)= -1-n:=by omega
    have hm: -1-n∈cv c:=ziD.2 ⟨by omega,by omega,List.any_eq_true.2 ⟨t,ht,by simpa [show -1-(-1-n)=n by omega] using hn⟩⟩;rw [List.getElem?_map,List.getElem?_range hk,wa,e1,qb hm];obtain ⟨v,v1,_,_⟩:=zo8 he _ hk;rw [v1];rfl
   simp only [lhv,key x.2.1 (zdb.2 ⟨x,hxc,.inl rfl⟩) h1,key x.2.2.1 (zdb.2 ⟨x,hxc,.inr rfl⟩) h2]
  simp only [hl,List.any_eq_true] at this;obtain ⟨x,hxc,hv⟩:=this;simp only [hlv,List.any_eq_true];exact ⟨x,hxc,by rw [<-same x hxc];exact hv⟩
 ·intro h
  cases hb:(FA s w c).2 with
  | false=>rfl
  | true=>
   obtain ⟨e1,e2⟩:=zKl s w w1 c hb;have:=h _ e1;simp only [hl] at e2;simp only [hlv] at this;rw [show c.any (lhv s.1 w (FA s w c).1)=c.any (lh s w (FA s w c).1) from rfl,e2] at this;cases this
theorem zBg (s:TSign) (hs:s.1.length<=1048576) (w:TWorld) (hw:smW w) (c:List TLit) (hc:c.length<=1048576): ∃b ok:Bool,zge M s w c=some ((b,ok,()),())∧(ok=true->gS s.1=true∧wOK s.1 w=true∧clOK s.1 c=true∧(b=true↔HOL s.1 w c)):=by
 have h:=zEZ s hs w hw c hc;unfold rHI at h;split at h
 ·rename_i hq;simp only [qq,ask] at hq;refine ⟨_,_,h,fun _=>⟨hq.1.1,hq.1.2,hq.2.1,?_⟩⟩;rw [<-zJE hq.1.1 hq.1.2 hq.2.1];simp
 ·exact ⟨_,_,h,fun h=>by cases h⟩
section
variable (s : TSign) (hs : s.1.length <= 1048576) (w : TWorld) (hw : smW w)
include hs hw
theorem zEU (l:List (List TLit)) (hl:l.length<=1048576) (hc: ∀c∈l,c.length<=1048576): ∀(k i:Nat) (acc:Bool),i+k=l.length->
  zcO M s w acc l l.length i=some (.inr ((false,false,()),()))∨ ∃b:Bool,zcO M s w acc l l.length i=some (.inl (b,()))∧(b=true->acc=true∧ ∀c∈l.drop i,HOL s.1 w c):=by
 intro k
 induction k with
 | zero=>
  intro i acc hi;obtain rfl:i=l.length:=by omega
  refine .inr ⟨acc,zjT _ _ _ _ _ _ ?_,fun h=>⟨h,by simp⟩⟩;simp only [zeO]
  rw [qc (by simp)]
 | succ k ih=>
  intro i acc hi;have h:i<l.length:=by omega
  have hlt:decide ((i:Int)<(l.length:Int))=true:=by simp;omega
  obtain ⟨b,ok,e,hb⟩:=zBg s hs w hw l[i] (hc _ (qi h))
  cases ok with
  | false=>
   refine .inl (zjT _ _ _ _ _ _ ?_);simp only [zeO,hlt,qf,zd h,zap,zba,e,qa]
   rfl
  | true=>
   have hb':=(hb rfl).2.2.2
   have step: ∀X,zcO M s w (acc&&b) l l.length ((i+1:Nat):Int)=X->zeO M s w acc l l.length i=X:=by
    intro X hX;simp only [zeO,hlt,qf,zd h,zap,zba,e,qa,qn,qg,qe];rw [zb (by omega)]
    cases acc with
    | true=>rw [qb rfl];simpa using hX
    | false=>rw [qc (by simp)];simpa using hX
   rcases ih (i+1) (acc&&b) (by omega) with h1 | ⟨b',h1,h2⟩
   ·exact .inl (zjT _ _ _ _ _ _ (step _ h1))
   ·refine .inr ⟨b',zjT _ _ _ _ _ _ (step _ h1),fun hb2=>?_⟩;obtain ⟨k1,k2⟩:=h2 hb2;simp only [qq] at k1;refine ⟨k1.1,fun c hc=>?_⟩;rw [qj h] at hc;rcases qA.1 hc with rfl | hc
    ·exact hb'.1 k1.2
    ·exact k2 c hc
theorem zFA (l:List (List TLit)) (hl:l.length<=1048576) (hc: ∀c∈l,c.length<=1048576): ∃b ok:Bool,zkJ M s w l=some ((b,ok,()),())∧(b=true->ok=true-> ∀c∈l,HOL s.1 w c):=by
 rcases zEU s hs w hw l hl hc l.length 0 true (by omega) with h | ⟨b,h,k⟩
 ·rw [show ((0:Nat):Int)=0 from rfl] at h;refine ⟨false,false,zvJ _ _ _ ?_,fun h=>by cases h⟩;simp only [znm,zap,zba,h,qa,qF]
 ·rw [show ((0:Nat):Int)=0 from rfl] at h;refine ⟨b,true,zvJ _ _ _ ?_,fun hb _=>by simpa using (k hb).2⟩;simp only [znm,zap,zba,h,qa,qd]
end
theorem zAT (k:Nat) (hk:k<=1048576) (a:List Int) (ha:a.length<=1048576):zik M a 0 (IntKind.i64.wrap ((k:Int)-1))=some ((ofN k a,()),()):=by
 rw [w64 (by omega) (by omega),zEk a 0 ((k:Int)-1) (by omega)];congr 3;unfold ofN;congr 1;funext x;congr 1;rw [decide_eq_decide];omega
theorem zEo (x y:TLit):(x=y)↔(x.1=y.1∧x.2.1=y.2.1∧x.2.2.1=y.2.2.1):=by
 obtain ⟨a,b,c,⟨⟩⟩:=x;obtain ⟨d,e,f,⟨⟩⟩:=y;simp
theorem zEh {β:Type} (x y:TLit) (r t:List TLit) (a b:β):(if x::r=y::t then a else b)=if x=y then (if r=t then a else b) else b:=by
 by_cases h:x=y
 ·subst h;by_cases k:r=t
  ·rw [qb (by rw [k]),qb rfl,qb k]
  ·rw [qc (fun q=>k (List.cons.inj q).2),qb rfl,qc k]
 ·rw [qc (fun q=>h (List.cons.inj q).1),qc h]
theorem zKn (x y:TLit) (hx:smL x):zhi M x y=some ((decide (x=y),()),()):=by
 apply zvy;simp only [zkF,zkI x.2.1 y.2.1 (by have:=hx.1;omega),zkI x.2.2.1 y.2.2.1 (by have:=hx.2;omega),qa];have e:=zEo x y;by_cases h1:x.1=y.1
 ·rw [qb (by simpa using h1)];by_cases h2:x.2.1=y.2.1
  ·rw [qb (by simpa using h2)];congr 3;rw [decide_eq_decide,e];exact ⟨fun h=>⟨h1,h2,h⟩,fun h=>h.2.2⟩
  ·rw [qc (by simpa using h2),qr (fun h=>h2 (e.1 h).2.1)]
 ·rw [qc (by simpa using h1),qr (fun h=>h1 (e.1 h).1)]
theorem zHv (c d:List TLit) (hl:c.length=d.length) (hc:c.length<=1048576) (hx: ∀x∈c,smL x): ∀k i:Nat,i+k=c.length->zj M d () c c.length i=some (if c.drop i=d.drop i then .inl () else .inr ((false,()),())):=by
 intro k
 induction k with
 | zero=>
  intro i hi;obtain rfl:i=c.length:=by omega
  apply zaR;simp only [zm]
  rw [qc (by simp),qG,hl,qG,qb rfl]
 | succ k ih=>
  intro i hi;have h1:i<c.length:=by omega
  have h2:i<d.length:=by omega
  apply zaR;simp only [zm];rw [qb (by simpa using h1),zd h1,zd h2,zb (by omega)];simp only [qa,zg,zKn c[i] d[i] (hx _ (qi h1))];rw [qj h1,qj h2,zEh];by_cases e:c[i]=d[i]
  ·rw [qp e,qb e,ih (i+1) (by omega),qc (by decide)]
  ·rw [qr e,qc e,qb (by decide)]
theorem zH9 (c d:List TLit) (hc:c.length<=1048576) (hx: ∀x∈c,smL x) (hd:d.length<=1048576):zi1 M c d=some ((decide (c=d),()),()):=by
 have key:zt M c d ()=some ((decide (c=d),()),()):=by
  apply zc3;simp only [z5];by_cases hl:c.length=d.length
  ·have h:=zHv c d hl hc hx c.length 0 (by omega);rw [show ((0:Nat):Int)=0 from rfl,qk,qk] at h;rw [qc (by simp;omega),h];by_cases e:c=d
   ·rw [qb e,qp e];rfl
   ·rw [qc e,qr e];rfl
  ·rw [qb (by simp;omega),qr (fun e=>hl (by rw [e]))]
 apply zwL;simp only [zmd,key,qa]
theorem zHV (c d:List TLit) (hl:c.length=d.length) (hc:c.length<=1048576) (hx: ∀x∈c,smL x): ∀k i:Nat,i+k=c.length->zfE M c d c.length i=some (if c.drop i=d.drop i then .inl () else .inr ((false,()),())):=by
 intro k
 induction k with
 | zero=>
  intro i hi;obtain rfl:i=c.length:=by omega
  apply zpg;simp only [zhl]
  rw [qc (by simp),qG,hl,qG,qb rfl]
 | succ k ih=>
  intro i hi;have h1:i<c.length:=by omega
  have h2:i<d.length:=by omega
  have hs:=hx _ (qi h1);have e:=zEo c[i] d[i];apply zpg;simp only [zhl];rw [qb (by simpa using h1),zd h1,zd h2,zb (by omega)];simp only [qa,zis c[i].2.1 d[i].2.1 (by have:=hs.1;omega),zis c[i].2.2.1 d[i].2.2.1 (by have:=hs.2;omega)];rw [qj h1,qj h2,zEh];by_cases q1:c[i].1=d[i].1
  ·rw [qc (by simpa using q1)];by_cases q2:c[i].2.1=d[i].2.1
   ·rw [qc (by simpa using q2)];by_cases q3:c[i].2.2.1=d[i].2.2.1
    ·rw [qc (by simpa using q3),ih (i+1) (by omega),qb (e.2 ⟨q1,q2,q3⟩)]
    ·rw [qb (by simpa using q3),qc (fun h=>q3 (e.1 h).2.2)]
   ·rw [qb (by simpa using q2),qc (fun h=>q2 (e.1 h).2.1)]
  ·rw [qb (by simpa using q1),qc (fun h=>q1 (e.1 h).1)]
theorem zEX (c d:List TLit) (hc:c.length<=1048576) (hx: ∀x∈c,smL x) (hd:d.length<=1048576):zko M c d=some ((decide (c=d),()),()):=by
 apply zyk;simp only [znJ];by_cases hl:c.length=d.length
 ·have h:=zHV c d hl hc hx c.length 0 (by omega);rw [show ((0:Nat):Int)=0 from rfl,qk,qk] at h;rw [qc (by simp;omega),h];by_cases e:c=d
  ·rw [qb e,qp e];rfl
  ·rw [qc e,qr e];rfl
 ·rw [qb (by simp;omega),qr (fun e=>hl (by rw [e]))]
def okStep (s:TSign) (inputs:List (List TLit)) (steps:List TStep) (i:Nat):Prop:= ∀h:i<steps.length,clOK s.1 steps[i].2.2.2.1=true∧(∀k∈steps[i].2.1,0<=k∧k<(i:Int))∧SndM s inputs (steps.take i) steps[i].2.1 steps[i].2.2.2.1
theorem zDq {s:TSign} {inputs:List (List TLit)} {steps:List TStep} (h: ∀i,okStep s inputs steps i) {w:TWorld} (hw:wOK s.1 w=true) (hI: ∀c∈inputs,HOL s.1 w c): ∀(n i:Nat) (hi:i<steps.length),i<n->HOL s.1 w steps[i].2.2.2.1:=by
 intro n
 induction n with
 | zero=>intro i _ h;omega
 | succ n ih=>
  intro i hi hn;obtain ⟨_,h2,h3⟩:=h i hi;refine h3 w hw hI fun k hk=>?_
  obtain ⟨k0,k1⟩:=h2 k hk;obtain ⟨m,rfl⟩: ∃m:Nat,k=(m:Int):=⟨k.toNat,by omega⟩;have hm:m<(steps.take i).length:=by simp;omega
  rw [ztK hm,List.getElem_take];exact ih m (by omega) (by omega)
section
variable (s : TSign) (hg : gS s.1 = true) (inputs : List (List TLit)) (hi : inputs.length <= 1048576) (hic : ∀ c ∈ inputs, clOK s.1 c = true) (steps : List TStep) (hl : steps.length <= 1048576) (hx : ∀ x ∈ steps, smP x)
include hg hi hic hl hx
theorem zDY (i:Nat) (h:i<steps.length) (hb: ∀x∈steps.take i,clOK s.1 x.2.2.2.1=true): ∃code:Int,zgY M s inputs (steps.take i) steps[i]=some ((code,()),())∧zoE M s inputs steps i=some ((code,()),())∧(code=0->okStep s inputs steps i):=by
 obtain ⟨z1,z2,z3,z4⟩:=hx _ (qi h);have ht:(steps.take i).length=i:=by simp;omega
 have aI:=zEn (steps.take i) steps[i].2.1 z1;have aS:=zAT i (by omega) steps[i].2.1 z1;rw [ht] at aI;have hi2:=zd h;have cut:(steps.take (Int.toNat (i:Int))).drop (Int.toNat (0:Int))=steps.take i:=by rw [qo];rfl
 have g0:0<=(0:Int)∧(0:Int)<=(i:Int)∧(i:Int)<=(steps.length:Int):=by omega
 cases ha:ofN i steps[i].2.1 with
 | false=>
  rw [ha] at aI aS;refine ⟨2,zgZ _ _ _ _ ?_,zox _ _ _ _ ?_,fun h=>by cases h⟩
  ·simp only [zc7,aI,qa];rfl
  ·simp only [zjf,hi2,aS,qa];rfl
 | true=>
 rw [ha] at aI aS
 have hps: ∀k∈steps[i].2.1,0<=k∧k<((steps.take i).length:Int):=by
  intro k hk;have:=List.all_eq_true.1 ha k hk;simp only [qq,qC] at this;rw [ht];exact this
 obtain ⟨ok,C1,C2,m1,m2,m3⟩:=zFX s hg inputs hi hic (steps.take i) (by omega) hb steps[i].2.1 steps[i].2.2.1 z1 z2 hps steps[i].1
 cases ok with
 | false=>
  refine ⟨3,zgZ _ _ _ _ ?_,zox _ _ _ _ ?_,fun h=>by cases h⟩
  ·simp only [zc7,aI,za,m1,qa];rfl
  ·simp only [zjf,hi2,aS,za,qa,qn,qg,qe];rw [qb g0,cut,m2]
   rfl
 | true=>
 obtain ⟨e,hC,hSnd⟩:=m3 rfl;subst e;obtain ⟨q1,q2⟩:=zq.1 hC;have qs: ∀x∈C1,smL x:=fun x hx=>by have:=zci (q2 x hx);exact ⟨by omega,by omega⟩
 have eI:=zH9 C1 steps[i].2.2.2.1 (by omega) qs z3;have eS:=zEX C1 steps[i].2.2.2.1 (by omega) qs z3;by_cases he:C1=steps[i].2.2.2.1
 ·rw [qp he] at eI eS;refine ⟨0,zgZ _ _ _ _ ?_,zox _ _ _ _ ?_,fun _ _=>⟨by rw [<-he];exact hC,fun k hk=>by have:=hps k hk;rw [ht] at this;exact this,by rw [<-he];exact hSnd⟩⟩
  ·simp only [zc7,aI,za,m1,eI,qa];rfl
  ·simp only [zjf,hi2,aS,za,qa,qn,qg,qe];rw [qb g0,cut,m2];simp only [qa,eS];rfl
 ·rw [qr he] at eI eS;refine ⟨4,zgZ _ _ _ _ ?_,zox _ _ _ _ ?_,fun h=>by cases h⟩
  ·simp only [zc7,aI,za,m1,eI,qa];rfl
  ·simp only [zjf,hi2,aS,za,qa,qn,qg,qe];rw [qb g0,cut,m2];simp only [qa,eS];rfl
theorem zD1: ∀(k i:Nat),i+k=steps.length->(∀x∈steps.take i,clOK s.1 x.2.2.2.1=true)->
  (zcj M inputs steps s steps steps.length i=some (.inl ())∧zdM M inputs steps s steps.length i=some (.inl ())∧ ∀j,i<=j->okStep s inputs steps j)∨
  ∃code at':Int,code≠0∧zcj M inputs steps s steps steps.length i=some (.inr ((code,at',true,()),()))∧zdM M inputs steps s steps.length i=some (.inr ((code,at',()),())):=by
 intro k
 induction k with
 | zero=>
  intro i hik _;obtain rfl:i=steps.length:=by omega
  refine .inl ⟨zgy _ _ _ _ _ _ ?_,zjR _ _ _ _ _ ?_,fun j hj h=>by omega⟩
  ·simp only [zcI];rw [qc (by simp)]
  ·simp only [zeD]
   rw [qc (by simp)]
 | succ k ih=>
  intro i hik hb;have h:i<steps.length:=by omega
  obtain ⟨code,c1,c2,c3⟩:=zDY s hg inputs hi hic steps hl hx i h hb;have hlt:decide ((i:Int)<(steps.length:Int))=true:=by simp;omega
  have cut:(steps.take (Int.toNat (i:Int))).drop (Int.toNat (0:Int))=steps.take i:=by rw [qo];rfl
  have g0:0<=(0:Int)∧(0:Int)<=(i:Int)∧(i:Int)<=(steps.length:Int):=by omega
  by_cases h0:code=0
  ·subst h0
   have hI: ∀X,zcj M inputs steps s steps steps.length ((i+1:Nat):Int)=X->zcI M inputs steps s steps steps.length i=X:=by
    intro X hX;simp only [zcI,hlt,zd h,qa,qf,za,zcz];rw [qb g0,cut,c1];simp only [qa];rw [qc (by decide),zb (by omega)];exact hX
   have hS: ∀X,zdM M inputs steps s steps.length ((i+1:Nat):Int)=X->zeD M inputs steps s steps.length i=X:=by
    intro X hX;simp only [zeD,hlt,c2,qa,qf,za];rw [qc (by decide),zb (by omega)];exact hX
   rcases ih (i+1) (by omega) (by
    intro x hx';rw [List.take_succ_eq_append_getElem h] at hx';rcases qt.1 hx' with q | q
    ·exact hb x q
    ·rw [qM.1 q];exact (c3 rfl h).1) with ⟨a1,a2,a3⟩ | ⟨code,at',a0,a1,a2⟩
   ·exact .inl ⟨zgy _ _ _ _ _ _ (hI _ a1),zjR _ _ _ _ _ (hS _ a2),fun j hj=>by
     by_cases e:j=i
     ·rw [e];exact c3 rfl
     ·exact a3 j (by omega)⟩
   ·exact .inr ⟨code,at',a0,zgy _ _ _ _ _ _ (hI _ a1),zjR _ _ _ _ _ (hS _ a2)⟩
  ·have hne:(code !=0)=true:=by simpa using h0
   refine .inr ⟨code,i,h0,zgy _ _ _ _ _ _ ?_,zjR _ _ _ _ _ ?_⟩
   ·simp only [zcI,hlt,zd h,qa,qf,za,zcz];rw [qb g0,cut,c1];simp only [qa,hne,qf]
   ·simp only [zeD,hlt,c2,qa,qf,za,hne]
end
theorem zsD (s:TSign) (hs:s.1.length<=1048576) (inputs:List (List TLit)) (hi:inputs.length<=1048576) (hix: ∀c∈inputs,smC c) (steps:List TStep) (hl:steps.length<=1048576) (hx: ∀x∈steps,smP x):
  ((gS s.1&&inOK s.1 inputs)=false∧zbJ M s inputs steps=some ((0,0,false,()),()))∨
  ((gS s.1&&inOK s.1 inputs)=true∧ ∃code at':Int,zbJ M s inputs steps=some ((code,at',true,()),())∧zig M s inputs steps=some ((code,at',()),())∧(code=0-> ∀i,okStep s inputs steps i)):=by
 have gI:=zpM s (show s.1.length<=17592186044416 by omega)
 cases hgi:(gS s.1&&inOK s.1 inputs) with
 | false=>
  refine .inl ⟨rfl,zkv _ _ _ ?_⟩;simp only [zfI,za,gI,qa]
  cases hg:gS s.1 with
  | false=>rfl
  | true=>
   rw [hg,Bool.true_and] at hgi;simp only [qn,qg,qe,zyA s hg inputs hi hix,hgi,qa]
   rfl
 | true=>
  simp only [qq] at hgi;obtain ⟨hg,hin⟩:=hgi;have aI:=zyA s hg inputs hi hix;rw [hin] at aI;rw [hg] at gI
  have hic: ∀c∈inputs,clOK s.1 c=true:=by
   simp only [inOK,qq] at hin;exact List.all_eq_true.1 hin.2
  refine .inr ⟨rfl,?_⟩;by_cases h200:(steps.length:Int)>200
  ·refine ⟨1,0,zkv _ _ _ ?_,zqY _ _ _ ?_,fun h=>by cases h⟩
   ·simp only [zfI,za,gI,aI,qa,qn,qg,qe];rw [qb (by simpa using h200)]
   ·simp only [zkV];rw [qb (by simpa using h200)]
  ·rcases zD1 s hg inputs hi hic steps hl hx steps.length 0 (by omega) (by simp) with ⟨a1,a2,a3⟩ | ⟨code,at',a0,a1,a2⟩
   ·rw [show ((0:Nat):Int)=0 from rfl] at a1 a2;refine ⟨0,0,zkv _ _ _ ?_,zqY _ _ _ ?_,fun _ j=>a3 j (by omega)⟩
    ·simp only [zfI,za,gI,aI,a1,qa,qd,qn,qg,qe];rw [qc (by simpa using h200)]
    ·simp only [zkV,za,a2,qa,qd];rw [qc (by simpa using h200)]
   ·rw [show ((0:Nat):Int)=0 from rfl] at a1 a2;refine ⟨code,at',zkv _ _ _ ?_,zqY _ _ _ ?_,fun h=>(a0 h).elim⟩
    ·simp only [zfI,za,gI,aI,a1,qa,qF,qn,qg,qe];rw [qc (by simpa using h200)]
    ·simp only [zkV,za,a2,qa,qF];rw [qc (by simpa using h200)]
def clS (a:List Int) (l:List TStep):Bool:=l.all fun x=>clOK a x.2.2.2.1
theorem zIr (s:TSign) (hg:gS s.1=true) (x:TStep) (hx:smP x):zgu M x s=some ((!clOK s.1 x.2.2.2.1,()),()):=by
 apply zu3;simp only [zj0,zap,zvX s hg x.2.2.2.1 hx.2.2.1,qa]
theorem zHW (s:TSign) (hg:gS s.1=true) (a:List TStep) (ha:a.length<=1048576) (hx: ∀x∈a,smP x): ∀k i:Nat,i+k=a.length-> ∃r,zp M a (s,()) a.length i=some r∧(match r with | .inl _=>clS s.1 (a.drop i)=true | .inr r=>0<=r.1.1∧clS s.1 (a.drop i)=false):=by
 intro k
 induction k with
 | zero=>
  intro i hi;obtain rfl:i=a.length:=by omega
  refine ⟨.inl (),zaz _ _ _ _ (by simp [zo]),by simp [clS]⟩
 | succ k ih=>
  intro i hi;have h1:i<a.length:=by omega
  obtain ⟨r,hr,hm⟩:=ih (i+1) (by omega);have hc:=hx _ (qi h1)
  have e:clS s.1 (a.drop i)=(clOK s.1 a[i].2.2.2.1&&clS s.1 (a.drop (i+1))):=by
   rw [qj h1];rfl
  rw [e];by_cases hp:clOK s.1 a[i].2.2.2.1=true
  ·refine ⟨r,zaz _ _ _ _ ?_,by rw [hp,Bool.true_and];exact hm⟩;simp only [zo];rw [qb (by simpa using h1),zd h1,zb (by omega)];simp only [qa,zcz,zIr s hg _ hc,hp,qn,qg,qe];exact hr
  ·rw [Bool.not_eq_true] at hp;refine ⟨.inr (((i:Int),()),()),zaz _ _ _ _ ?_,Int.natCast_nonneg i,by rw [hp,Bool.false_and]⟩;simp only [zo];rw [qb (by simpa using h1),zd h1];simp only [qa,zcz,zIr s hg _ hc,hp,qU,qf]
theorem zEK (s:TSign) (hg:gS s.1=true) (a:List TStep) (ha:a.length<=1048576) (hx: ∀x∈a,smP x):zh9 M s a=some ((decide (a.length<=200)&&clS s.1 a,()),()):=by
 obtain ⟨r,hr,hm⟩:=zHW s hg a ha hx a.length 0 (by omega);rw [show ((0:Nat):Int)=0 from rfl] at hr;rw [qk] at hm
 have key:zR M a (s,())=some ((!(clS s.1 a),()),()):=by
  apply zeM;simp only [zaE]
  cases r with
  | inl r=>
   rw [zbY a (s,()) (r:=((-1,()),())) (by simp only [z7,hr,qa,qd])];simp only at hm
   simp [hm]
  | inr r=>
   rw [zbY a (s,()) (r:=r) (by simp only [z7,hr,qa,qF])];simp only at hm;simp [hm]
 apply zvP;simp only [zlF,zap,key,qa,Bool.not_not];by_cases h:a.length<=200
 ·rw [qb (by simp;omega),qp h,Bool.true_and]
 ·rw [qc (by simp;omega),qr h,Bool.false_and]
theorem zGD (s:TSign) (hs:s.1.length<=1048576) (hg:gS s.1=true) (a:List TStep) (ha:a.length<=1048576) (hx: ∀x∈a,smP x):znj M s a=some ((decide (a.length<=200)&&clS s.1 a,()),()):=by
 have h: ∀k i:Nat,i+k=a.length->zhM M a s a a.length i=some (if clS s.1 (a.drop i)=true then .inl (a,s,()) else .inr ((false,()),())):=by
  intro k
  induction k with
  | zero=>
   intro i hi;obtain rfl:i=a.length:=by omega
   apply zrM;simp only [zjL,za];rw [qc (by simp),qG]
   rfl
  | succ k ih=>
   intro i hi;have h1:i<a.length:=by omega
   obtain ⟨_,_,c1,c2⟩:=hx _ (qi h1)
   have e:clS s.1 (a.drop i)=(clOK s.1 a[i].2.2.2.1&&clS s.1 (a.drop (i+1))):=by
    rw [qj h1];rfl
   apply zrM;simp only [zjL,za];rw [qb (by simpa using h1),zd h1,zb (by omega),e];simp only [qa,zjG s hg a[i].2.2.2.1 c1 c2]
   cases clOK s.1 a[i].2.2.2.1 with
   | false=>rfl
   | true=>exact ih (i+1) (by omega)
 have h0:=h a.length 0 (by omega);rw [show ((0:Nat):Int)=0 from rfl,qk] at h0;apply zz2;simp only [zra,za,h0,qa]
 cases clS s.1 a with
 | false=>simp
 | true=>
  simp only [qf,qd,zqs s (show s.1.length<=17592186044416 by omega),hg,qa,wg];congr 3;rw [decide_eq_decide];omega
def pk:Nat->List TStep->Bool
 | _,[]=>true
 | i,x::r=>ofN i x.2.1&&pk (i+1) r
theorem zIt (a:List TStep) (ha:a.length<=1048576) (hx: ∀x∈a,smP x): ∀k i:Nat,i+k=a.length->zfY M a a a.length i=some (if pk i (a.drop i)=true then .inl () else .inr ((false,()),())):=by
 intro k
 induction k with
 | zero=>
  intro i hi;obtain rfl:i=a.length:=by omega
  apply zpO;simp only [zhT];rw [qc (by simp),qG]
  rfl
 | succ k ih=>
  intro i hi;have h1:i<a.length:=by omega
  have ht:(a.take i).length=i:=by simp;omega
  have aI:=zEn (a.take i) a[i].2.1 (hx _ (qi h1)).1;rw [ht] at aI;have cut:(a.take (Int.toNat (i:Int))).drop (Int.toNat (0:Int))=a.take i:=by rw [qo];rfl
  apply zpO;simp only [zhT];rw [qb (by simpa using h1),zd h1,zb (by omega),qj h1,pk];simp only [qa];rw [qb (by omega),cut,aI];simp only [qa]
  cases ofN i a[i].2.1 with
  | false=>rfl
  | true=>exact ih (i+1) (by omega)
theorem zJl (s:TSign) (a:List TStep) (ha:a.length<=200) (hx: ∀x∈a,smP x): ∀k i:Nat,i+k=a.length->zfK M a s a a.length i=some (if pk i (a.drop i)=true then .inl (a,s,()) else .inr ((false,()),())):=by
 intro k
 induction k with
 | zero=>
  intro i hi;obtain rfl:i=a.length:=by omega
  apply zjF;simp only [zeG,za];rw [qc (by simp),qG]
  rfl
 | succ k ih=>
  intro i hi;have h1:i<a.length:=by omega
  have aS:=zAT i (by omega) a[i].2.1 (hx _ (qi h1)).1;apply zjF;simp only [zeG,za];rw [qb (by simpa using h1),zd h1,zb (by omega),qj h1,pk];simp only [qa];rw [qc (by simp;omega),aS];simp only [qa]
  cases ofN i a[i].2.1 with
  | false=>rfl
  | true=>exact ih (i+1) (by omega)
theorem zGL (s:TSign) (a:List TStep) (ha:a.length<=1048576) (h200:200<a.length) (hx: ∀x∈a,smP x): ∀k i:Nat,i+k=200->zfK M a s a a.length i=some (.inr ((false,()),())):=by
 intro k
 induction k with
 | zero=>
  intro i hi;obtain rfl:i=200:=by omega
  apply zjF;simp only [zeG,za];rw [qb (by simp;omega),zd h200];simp only [qa]
  rw [qb (by simp)]
 | succ k ih=>
  intro i hi;have h1:i<a.length:=by omega
  have aS:=zAT i (by omega) a[i].2.1 (hx _ (qi h1)).1;apply zjF;simp only [zeG,za];rw [qb (by simpa using h1),zd h1,zb (by omega)];simp only [qa];rw [qc (by simp;omega),aS];simp only [qa]
  cases ofN i a[i].2.1 with
  | false=>rfl
  | true=>exact ih (i+1) (by omega)
theorem zIY (s:TSign) (hs:s.1.length<=1048576) (hg:gS s.1=true) (a:List TStep) (ha:a.length<=1048576) (hx: ∀x∈a,smP x): ∃b:Bool,zlG M s a=some ((b,()),())∧znu M s a=some ((b,()),()):=by
 have gI:=zpM s (show s.1.length<=17592186044416 by omega);rw [hg] at gI;have sI:=zEK s hg a ha hx;have sS:=zGD s hs hg a ha hx;have lI:=zIt a ha hx a.length 0 (by omega);rw [show ((0:Nat):Int)=0 from rfl,qk] at lI;by_cases h200:a.length<=200
 ·have lS:=zJl s a h200 hx a.length 0 (by omega);rw [show ((0:Nat):Int)=0 from rfl,qk] at lS;rw [qp h200,Bool.true_and] at sI sS;refine ⟨clS s.1 a&&pk 0 a,zt1 _ _ ?_,zva _ _ ?_⟩
  ·simp only [zlt,za,gI,sI,lI,qa];cases clS s.1 a<;>cases pk 0 a<;>rfl
  ·simp only [znt,za,lS,qa]
   cases pk 0 a with
   | false=>
    rw [Bool.and_false];rfl
   | true=>
    simp only [qf,qd,sS,qa,wg]
 ·have lS:=zGL s a ha (by omega) hx 200 0 (by omega);rw [show ((0:Nat):Int)=0 from rfl] at lS;rw [qr h200,Bool.false_and] at sI;refine ⟨false,zt1 _ _ ?_,zva _ _ ?_⟩
  ·simp only [zlt,za,gI,sI,qa];rfl
  ·simp only [znt,za,lS,qa,qF]
def noE (a:List TStep) (i:Nat):Prop:= ∀m,(h:m<a.length)->i<=m->a[m].2.2.2.1≠ []
def isE (a:List TStep) (i j:Nat):Prop:= ∃h:j<a.length,i<=j∧a[j].2.2.2.1= []∧ ∀m,(h:m<a.length)->i<=m->m<j->a[m].2.2.2.1≠ []
theorem zDN (a:List TStep) (ha:a.length<=1048576): ∀k i:Nat,i+k=a.length->
  (noE a i∧zh M a () a.length i=some (.inl ())∧zdP M a a.length i=some (.inl ()))∨
  ∃j:Nat,isE a i j∧zh M a () a.length i=some (.inr (((j:Int),()),()))∧zdP M a a.length i=some (.inr (((j:Int),()),())):=by
 intro k
 induction k with
 | zero=>
  intro i hi;obtain rfl:i=a.length:=by omega
  refine .inl ⟨fun m h h'=>by omega,zY _ _ _ _ ?_,zjI _ _ _ ?_⟩
  ·simp only [zk];rw [qc (by simp)]
  ·simp only [zeT]
   rw [qc (by simp)]
 | succ k ih=>
  intro i hi;have h1:i<a.length:=by omega
  have hlt:decide ((i:Int)<(a.length:Int))=true:=by simp;omega
  have f1:zi6 M a[i]=some ((((a[i].2.2.2.1.length:Int)==0),()),()):=zwM _ rfl
  cases hb:((a[i].2.2.2.1.length:Int)==0) with
  | true=>
   rw [hb] at f1
   have h0:a[i].2.2.2.1= []:=by
    have:(a[i].2.2.2.1.length:Int)=0:=by simpa using hb
    exact wc.1 (by omega)
   refine .inr ⟨i,⟨h1,ql _,h0,fun m _ h2 h3=>by omega⟩,zY _ _ _ _ ?_,zjI _ _ _ ?_⟩
   ·simp only [zk,hlt,zd h1,zcz,f1,qa,qf]
   ·simp only [zeT,hlt,zd h1,hb,qa,qf]
  | false=>
   rw [hb] at f1;have h0:a[i].2.2.2.1≠ []:=fun e=>by rw [e] at hb;simp at hb
   have hI: ∀X,zh M a () a.length ((i+1:Nat):Int)=X->zk M a () a.length i=X:=by
    intro X hX;simp only [zk,hlt,zd h1,zcz,f1,qa,qf,qg,qe];rw [zb (by omega)];exact hX
   have hS: ∀X,zdP M a a.length ((i+1:Nat):Int)=X->zeT M a a.length i=X:=by
    intro X hX;simp only [zeT,hlt,zd h1,hb,qa,qf,qg,qe];rw [zb (by omega)];exact hX
   have hlow: ∀m,(h:m<a.length)->i<=m->(i+1<=m->a[m].2.2.2.1≠ [])->a[m].2.2.2.1≠ []:=fun m h h2 h3=>by
    by_cases e:m=i
    ·subst e;exact h0
    ·exact h3 (by omega)
   rcases ih (i+1) (by omega) with ⟨a0,a1,a2⟩ | ⟨j,⟨j1,j2,j3,j4⟩,a1,a2⟩
   ·exact .inl ⟨fun m h h2=>hlow m h h2 (a0 m h),zY _ _ _ _ (hI _ a1),zjI _ _ _ (hS _ a2)⟩
   ·exact .inr ⟨j,⟨j1,by omega,j3,fun m h h2 h3=>hlow m h h2 (fun h4=>j4 m h h4 h3)⟩,zY _ _ _ _ (hI _ a1),zjI _ _ _ (hS _ a2)⟩
theorem zFq (a:List TStep) (ha:a.length<=1048576): ∃z:Int,zky M a=some ((z,()),())∧znp M a=some ((z,()),())∧((z= -1∧noE a 0)∨ ∃j:Nat,z=(j:Int)∧isE a 0 j):=by
 rcases zDN a ha a.length 0 (by omega) with ⟨a0,a1,a2⟩ | ⟨j,a0,a1,a2⟩
 ·rw [show ((0:Nat):Int)=0 from rfl] at a1 a2
  have hx:zG M a ()=some ((-1,()),()):=by
   apply zca;simp only [zak,a1,qa,qd]
  refine ⟨-1,zsZ _ ?_,zvi _ ?_,.inl ⟨rfl,a0⟩⟩
  ·simp only [zkc,hx,qa]
  ·simp only [zno,a2,qa,qd]
 ·rw [show ((0:Nat):Int)=0 from rfl] at a1 a2
  have hx:zG M a ()=some (((j:Int),()),()):=by
   apply zca;simp only [zak,a1,qa,qF]
  refine ⟨j,zsZ _ ?_,zvi _ ?_,.inr ⟨j,rfl,a0⟩⟩
  ·simp only [zkc,hx,qa]
  ·simp only [zno,a2,qa,qF]
theorem zDL (s:TSign) (hs:s.1.length<=1048576) (inputs:List (List TLit)) (hi:inputs.length<=1048576) (hix: ∀c∈inputs,smC c) (steps:List TStep) (hl:steps.length<=1048576) (hx: ∀x∈steps,smP x): ∃b ok:Bool,zix M s inputs steps=some ((b,ok,()),())∧zir M s inputs steps=some ((b,ok,()),())∧(b=true-> ∃x∈steps,x.2.2.2.1= []):=by
 have lS:=zwd s hs inputs hi hix;rcases zsD s hs inputs hi hix steps hl hx with ⟨hf,a1⟩ | ⟨ht,code,at',a1,a2,_⟩
 ·rw [hf] at lS;refine ⟨false,false,zlx _ _ _ ?_,zlJ _ _ _ ?_,fun h=>by cases h⟩
  ·simp only [zgc,za,a1,qa];rfl
  ·simp only [zgg,za,lS,qa];rfl
 ·rw [ht] at lS;simp only [qq] at ht;obtain ⟨b,l1,l2⟩:=zIY s hs ht.1 steps hl hx;obtain ⟨z,z1,z2,z3⟩:=zFq steps hl
  cases b with
  | false=>
   refine ⟨false,false,zlx _ _ _ ?_,zlJ _ _ _ ?_,fun h=>by cases h⟩
   ·simp only [zgc,za,a1,l1,qa];rfl
   ·simp only [zgg,za,lS,l2,qa];rfl
  | true=>
   cases hc:(code==0) with
   | true=>
    refine ⟨decide (z>=0),true,zlx _ _ _ ?_,zlJ _ _ _ ?_,fun h=>by
     rcases z3 with ⟨e,_⟩ | ⟨j,_,hj,_,e,_⟩
     ·simp [e] at h
     ·exact ⟨_,qi hj,e⟩⟩
    ·simp only [zgc,za,a1,l1,hc,z1,qa];rfl
    ·simp only [zgg,za,lS,l2,a2,hc,z2,qa];rfl
   | false=>
    refine ⟨false,true,zlx _ _ _ ?_,zlJ _ _ _ ?_,fun h=>by cases h⟩
    ·simp only [zgc,za,a1,l1,hc,qa];rfl
    ·simp only [zgg,za,lS,l2,a2,hc,qa];rfl
theorem zCg (s:TSign) (hs:s.1.length<=1048576) (inputs:List (List TLit)) (hi:inputs.length<=1048576) (hix: ∀c∈inputs,smC c) (steps:List TStep) (hl:steps.length<=1048576) (hx: ∀x∈steps,smP x):
  ((gS s.1&&inOK s.1 inputs)=false∧zbJ M s inputs steps=some ((0,0,false,()),())∧zdL M s inputs steps=some ((0,0,false,()),()))∨
  ((gS s.1&&inOK s.1 inputs)=true∧ ∃code at':Int,zbJ M s inputs steps=some ((code,at',true,()),())∧zig M s inputs steps=some ((code,at',()),())∧zdL M s inputs steps=some ((code,at',true,()),())):=by
 have lS:=zwd s hs inputs hi hix;rcases zsD s hs inputs hi hix steps hl hx with ⟨hb,a1⟩ | ⟨hb,code,at',a1,hk,_⟩
 ·rw [hb] at lS;refine .inl ⟨hb,a1,zsR _ _ _ ?_⟩;simp only [zkx,za,lS,qa];rfl
 ·rw [hb] at lS;refine .inr ⟨hb,code,at',a1,hk,zsR _ _ _ ?_⟩;simp only [zkx,za,lS,hk,qa];rfl
theorem zD7 (z:Int):0<=IntKind.u64.wrap z∧IntKind.u64.wrap z<18446744073709551616:=by
 have:IntKind.u64.wrap z=z % 18446744073709551616:=by simp [IntKind.wrap,IntKind.bits,IntKind.signed]
 rw [this];omega
theorem zI5 (z:Int):0<=shrI .u64 (IntKind.u64.wrap z) 40∧shrI .u64 (IntKind.u64.wrap z) 40<=16777216:=by
 obtain ⟨h1,h2⟩:=zD7 z;have e:shrI .u64 (IntKind.u64.wrap z) 40=(IntKind.u64.wrap z).fdiv 1099511627776:=rfl;rw [e,Int.fdiv_eq_ediv_of_nonneg _ (by omega)];omega
theorem zI7 {S:Int} (h1:1<=S) (z:Int):0<=Int.tmod (IntKind.i64.wrap (shrI .u64 (IntKind.u64.wrap z) 40)) S∧Int.tmod (IntKind.i64.wrap (shrI .u64 (IntKind.u64.wrap z) 40)) S<S:=by
 obtain ⟨h2,h3⟩:=zI5 z;rw [w64 (by omega) (by omega)];exact ⟨Int.tmod_nonneg _ h2,Int.tmod_lt_of_pos _ (by omega)⟩
theorem zzD (b:List Int) (hb:isBytes b): ∀(k i:Nat) (n:Int),i+k=b.length->0<=n->n<=1000002-> ∃r,zgM M n b b.length i=some (.inl (r,()))∧0<=r∧r<=1000002:=by
 obtain ⟨hl,hx⟩:=hb;intro k
 induction k with
 | zero=>
  intro i n hi n0 n1;refine ⟨n,zqA _ _ _ _ ?_,n0,n1⟩;simp only [ziU]
  rw [qc (by simp;omega)]
 | succ k ih=>
  intro i n hi n0 n1;have h1:i<b.length:=by omega
  have hxi:=hx _ (qi h1);have t0:=Int.tmod_nonneg (1000003:Int) (show 0<=31*n+b[i] by omega);have t1:=Int.tmod_lt_of_pos (31*n+b[i]) (show (0:Int)<1000003 by omega);obtain ⟨r,r1,r2,r3⟩:=ih (i+1) (Int.tmod (31*n+b[i]) 1000003) (by omega) t0 (by omega);refine ⟨r,zqA _ _ _ _ ?_,r2,r3⟩;simp only [ziU];rw [qb (by simp;omega),zd h1];simp only [qa];rw [qc (by omega),w64 (x:=31*n) (by omega) (by omega),w64 (x:=b[i]) (by omega) (by omega),w64 (x:=31*n+b[i]) (by omega) (by omega),zb (by omega)];exact r1
theorem zEI (b:List Int) (hb:isBytes b): ∃r,zmn M b=some ((r,()),()):=by
 obtain ⟨r,r1,_⟩:=zzD b hb b.length 0 0 (by omega) (by omega) (by omega);rw [show ((0:Nat):Int)=0 from rfl] at r1;refine ⟨r,zzu _ ?_⟩;simp only [zqt,r1,qa,qd]
theorem zG3 (w0 w1:TWorld) (h1:1<=w1.1) (x:Int) (ar:List Int) (L i:Int): ∀(k:Nat) (n:Int),0<=n->n*pw w1.1 k<=1000000->k<=1000->zfj M w0 x w1 (k:Int) n ar L i=some (.inl (w0,x,w1,n*pw w1.1 k,ar,L,i,())):=by
 intro k
 induction k with
 | zero=>
  intro n _ _ _;apply zpr;simp only [zhc];rw [qc (by simp)]
  simp [pw,zba]
 | succ k ih=>
  intro n n0 hb hk;obtain ⟨m1,m2,m3⟩:=zDc h1 n0 hb;apply zpr;simp only [zhc];rw [qb (by simp<;>omega),w64 (x:=n*w1.1) (by omega) (by omega),w64 (x:=((k+1:Nat):Int)-1) (by omega) (by omega),show ((k+1:Nat):Int)-1=(k:Int) by omega,zba,zba,ih _ m1 m3 (by omega)];rw [Int.mul_assoc];rfl
theorem zHA (w0 w1:TWorld) (h1:1<=w1.1) (ar:List Int) (L i:Int): ∀(k:Nat) (x:Int) (t:List Int),t.length+k<=1000->elOK w1.1 t=true-> ∃(x':Int) (t':List Int),zeF M w0 x w1 (k:Int) t ar L i=some (.inl (w0,x',w1,t',ar,L,i,()))∧t'.length=t.length+k∧elOK w1.1 t'=true:=by
 intro k
 induction k with
 | zero=>
  intro x t _ he;refine ⟨x,t,zoh _ _ _ _ _ _ _ _ ?_,rfl,he⟩;simp only [zgr];rw [qc (by simp)]
  all_goals rfl
 | succ k ih=>
  intro x t ht he;obtain ⟨t0,t1⟩:=zI7 h1 ((IntKind.u64.wrap (x*(6364136223846793005:Int)))+(1442695040888963407:Int))
  obtain ⟨x',t',e1,e2,e3⟩:=ih (IntKind.u64.wrap ((IntKind.u64.wrap (x*(6364136223846793005:Int)))+(1442695040888963407:Int))) (t++ [Int.tmod (IntKind.i64.wrap (shrI .u64 (IntKind.u64.wrap ((IntKind.u64.wrap (x*(6364136223846793005:Int)))+(1442695040888963407:Int))) (40:Int))) w1.1]) (by simp;omega) (by
   simp only [elOK,List.all_append,qq] at he ⊢;refine ⟨he,?_⟩;simp only [qT,List.all_nil,wg,qq,qC];exact ⟨t0,t1⟩)
  refine ⟨x',t',zoh _ _ _ _ _ _ _ _ ?_,by rw [e2];simp;omega,e3⟩;simp only [zgr];rw [qb (by simp<;>omega),qc (by omega),qc (by omega),qb (by simp;omega),w64 (x:=((k+1:Nat):Int)-1) (by omega) (by omega),show ((k+1:Nat):Int)-1=(k:Int) by omega];exact e1
theorem zFw (w0:TWorld) (S:Int) (h1:1<=S) (h3:S<=3) (ar:List Int) (hl:ar.length<=10) (hx: ∀x∈ar,0<=x∧x<=3): ∀(k i:Nat) (x:Int) (o:List (List Int)),i+k=ar.length->o.length=i->
  ∃ts:List (List Int),zgJ M w0 x (S,o,()) ar ar.length i=some (.inl (w0,(S,o++ts,()),()))∧ts.length=k∧tabOK S (ar.drop i) ts=true∧ ∀y∈ts,smS y:=by
 intro k
 induction k with
 | zero=>
  intro i x o hi ho;obtain rfl:i=ar.length:=by omega
  refine ⟨[],zqF _ _ _ _ _ _ ?_,rfl,by simp [tabOK],by simp⟩;simp only [zi5];rw [qc (by simp),qO]
  all_goals rfl
 | succ k ih=>
  intro i x o hi ho;have hi1:i<ar.length:=by omega
  have hxa:=hx _ (qi hi1);obtain ⟨n,hn⟩: ∃n:Nat,ar[i]=(n:Int):=⟨ar[i].toNat,by omega⟩;have hp:=zBW h1 h3 (k:=n) (by omega);have hp0:=zB3 h1 n;have e1:=zG3 w0 (S,o,()) h1 x ar ar.length i n 1 (by omega) (by rw [Int.one_mul];show pw S n<=1000000;omega) (by omega);rw [Int.one_mul] at e1;obtain ⟨m,hm⟩: ∃m:Nat,pw S n=(m:Int):=⟨(pw S n).toNat,by omega⟩;obtain ⟨x',t',q1,q2,q3⟩:=zHA w0 (S,o,()) h1 ar ar.length i m x [] (by simp;omega) rfl;obtain ⟨ts,r1,r2,r3,r4⟩:=ih (i+1) x' (o++ [t']) (by omega) (by simp [ho]);simp only [qR,qI] at q2;refine ⟨t'::ts,zqF _ _ _ _ _ _ ?_,by simp [r2],?_,?_⟩
  ·simp only [zi5];rw [qb (by simp;omega),zd hi1];simp only [qa,zba,hn];rw [e1];simp only [qa,qd];rw [hm,q1];simp only [qa,qd];rw [qb (by simp;omega),zb (by omega),r1,qE];rfl
  ·rw [qj hi1];simp only [tabOK,qq,qC];exact ⟨by rw [q2,hn,qo,hm],q3,r3⟩
  ·intro y hy;rcases qA.1 hy with rfl | hy
   ·unfold smS;rw [q2];omega
   ·exact r4 y hy
theorem zF0 (s:TSign) (hg:gS s.1=true) (b:List Int) (hb:isBytes b): ∃w:TWorld,zk2 M s b=some ((w,()),())∧wOK s.1 w=true∧w.2.1.length<=10∧ ∀y∈w.2.1,smS y:=by
 obtain ⟨s10,sx⟩:=zFv hg;obtain ⟨r,r1⟩:=zEI b hb;have u1:=zD7 ((IntKind.u64.wrap r)+(7:Int));have t0:=Int.tmod_nonneg (3:Int) u1.1;have t1:=Int.tmod_lt_of_pos (IntKind.u64.wrap ((IntKind.u64.wrap r)+(7:Int))) (show (0:Int)<3 by omega);obtain ⟨ts,q1,q2,q3,q4⟩:=zFw (0,[],()) (1+Int.tmod (IntKind.u64.wrap ((IntKind.u64.wrap r)+(7:Int))) 3) (by omega) (by omega) s.1 s10 sx s.1.length 0 (IntKind.u64.wrap ((IntKind.u64.wrap r)+(7:Int))) [] (by omega) rfl;rw [show ((0:Nat):Int)=0 from rfl] at q1;refine ⟨(1+Int.tmod (IntKind.u64.wrap ((IntKind.u64.wrap r)+(7:Int))) 3,ts,()),zAM _ _ ?_,?_,by simp only;omega,q4⟩
 ·simp only [zqX,r1,qa];rw [qc (by omega),w64 (x:=Int.tmod (IntKind.u64.wrap ((IntKind.u64.wrap r)+(7:Int))) 3) (by omega) (by omega),w64 (by omega) (by omega),q1];rfl
 ·simp only [wOK,qq,qC];exact ⟨by omega,by omega,q2,by simpa using q3⟩
theorem zKk (a b:List Int) (la:a.length<=9223372036854775807) (lb:b.length<=9223372036854775807):zp8 M a b=some ((decide (1048576<a.length) || decide (1048576-(a.length:Int)<b.length),()),()):=by
 apply zEy;simp only [zv5];by_cases h:1048576<a.length
 ·rw [qb (by simp;omega)];simp [h]
 ·rw [qc (by simp;omega),w64 (by omega) (by omega)];simp [h]
theorem zGI (s:TSign) (hs:s.1.length<=1048576) (w:TWorld) (hw:smW w) (r1 r2 all two:Bool) (steps:List TStep) (hl:steps.length<=1048576) (hx: ∀x∈steps,smP x) (h:all=true->two=true-> ∀x∈steps,HOL s.1 w x.2.2.2.1): ∀k i:Nat,i+k=steps.length->
  zbk M2 s r1 r2 w all two steps steps.length i=some (.inl (r1,r2,all,two,())):=by
 intro k
 induction k with
 | zero=>
  intro i hi;obtain rfl:i=steps.length:=by omega
  apply zmO;simp only [zff]
  rw [qc (by simp)]
 | succ k ih=>
  intro i hi;have h1:i<steps.length:=by omega
  have hlt:decide ((i:Int)<(steps.length:Int))=true:=by simp;omega
  obtain ⟨b,ok,e0,hb⟩:=zBg s hs w hw steps[i].2.2.2.1 (hx _ (qi h1)).2.2.1;have e:zge M2 s w steps[i].2.2.2.1=some ((b,ok,()),()):=upC e0;have ih':=ih (i+1) (by omega);apply zmO;simp only [zff,hlt,qf,zd h1,zap,zba,e,qa];rw [zb (by omega),ih']
  cases two with
  | false=>rfl
  | true=>
  cases ok with
  | false=>rfl
  | true=>
  cases all with
  | false=>rfl
  | true=>
   have hb':b=true:=(hb rfl).2.2.2.2 (h rfl rfl _ (qi h1));subst hb';rfl
theorem zDF (a b:List Int) (ha: ∀x∈a,0<=x∧x<=255) (hb: ∀x∈b,0<=x∧x<=255) (la:a.length<=9223372036854775807) (lb:b.length<=9223372036854775807):zle M2 a b=some ((true,()),()):=by
 have big:zp8 M2 a b=some ((decide (1048576<a.length) || decide (1048576-(a.length:Int)<b.length),()),()):=upC (zKk a b la lb);apply zzj;simp only [zoM,big,qa];by_cases hB:(decide (1048576<a.length) || decide (1048576-(a.length:Int)<b.length))=true
 ·rw [qb hB]
 ·rw [qc hB];simp only [wd,qC,not_or] at hB;have ba:isBytes a:=⟨by omega,ha⟩;have bb:isBytes b:=⟨by omega,hb⟩;obtain ⟨⟨⟨⟨s,⟨⟩⟩,inp,st,⟨⟩⟩,⟨⟩⟩,d1,d2,d3,d4,d5,d6⟩:=zyE ba;simp only at d2 d3 d4 d5 d6;have hs:s.length<=1048576:=by have:=d2.1;omega
  have hx: ∀x∈st,smP x:=fun x h=>(d6 x h).smP
  have c0:=zsD (s,()) hs inp (by omega) d4 st (by omega) hx;obtain ⟨rb,ro,i1,i2,i3⟩:=zDL (s,()) hs inp (by omega) d4 st (by omega) hx;have I1:zix M2 (s,()) inp st=some ((rb,ro,()),()):=upC i1;have I2:zir M2 (s,()) inp st=some ((rb,ro,()),()):=upC i2;rw [d1];simp only [qa];rcases zCg (s,()) hs inp (by omega) d4 st (by omega) hx with ⟨_,k1,k2⟩ | ⟨hgi,code,at',k1,_,k2⟩
  ·have K1:zbJ M2 (s,()) inp st=some ((0,0,false,()),()):=upC k1;have K2:zdL M2 (s,()) inp st=some ((0,0,false,()),()):=upC k2;simp only [K1,K2,I1,I2,qa,wb,bne_self_eq_false,qn,qg,qe];rfl
  ·have K1:zbJ M2 (s,()) inp st=some ((code,at',true,()),()):=upC k1;have K2:zdL M2 (s,()) inp st=some ((code,at',true,()),()):=upC k2;simp only [K1,K2,I1,I2,qa,wb,bne_self_eq_false,qn,qg,qe,qf];by_cases hc:(code==0)=true
   case neg=>rw [qc hc];rfl
   rw [qb hc];obtain rfl:code=0:=by simpa using hc
   have hall: ∀i,okStep (s,()) inp st i:=by
    rcases c0 with ⟨h,_⟩ | ⟨_,code',at'',m1,_,m3⟩
    ·rw [h] at hgi;cases hgi
    ·rw [k1] at m1;have e:=congrArg (fun o=>(o.map fun r:(Int×Int×Bool×Unit)×Unit=>r.1.1).getD 0) m1;exact m3 e.symm
   simp only [qq] at hgi;obtain ⟨w,w1,w2,w3,w4⟩:=zF0 (s,()) hgi.1 b bb;have hw:smW w:=⟨by omega,w4⟩;have W1:zk2 M2 (s,()) b=some ((w,()),()):=upC w1;obtain ⟨al,tw,h1,h2⟩:=zFA (s,()) hs w hw inp (by omega) (fun c hc=>(d4 c hc).1);have H1:zkJ M2 (s,()) w inp=some ((al,tw,()),()):=upC h1
   have hol:al=true->tw=true-> ∀x∈st,HOL s w x.2.2.2.1:=fun q1 q2 x hx=>by
    obtain ⟨i,hi,rfl⟩:=List.getElem_of_mem hx;exact zDq (s:=(s,())) hall w2 (h2 q1 q2) (i+1) i hi (by omega)
   have L:=zGI (s,()) hs w hw rb ro al tw st (by omega) hx hol st.length 0 (by omega);rw [show ((0:Nat):Int)=0 from rfl] at L;simp only [W1,H1,L,zba,qa,qd]
   cases tw with
   | false=>rfl
   | true=>
   cases al with
   | false=>rfl
   | true=>
   cases ro with
   | false=>rfl
   | true=>
   cases rb with
   | false=>rfl
   | true=>
    exfalso;obtain ⟨x,x1,x2⟩:=i3 rfl;have hx:=hol rfl rfl x x1;rw [x2] at hx
    have:=hx (List.replicate 12 0) (by
     have h0:0<w.1:=by
      simp only [wOK,qq,qC] at w2;omega
     simp only [envOK,elOK,List.length_replicate,decide_true,Bool.true_and,List.all_eq_true];intro y hy;rw [List.eq_of_mem_replicate hy];simp;omega)
    simp [hlv] at this
end Go.Proofs.YtchkojfhcdcnmaaGreatCk.Ev
