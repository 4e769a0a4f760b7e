/- Texts laid together: PAa, PAb, PW, PHo, PXa, PHa, PX, RFp, YBa, PBa, PB, VAa, VAc, VAb, QD, WAc, QE, QHa, PEb, QIa, QJa, QH, QKa; no condition but those that each theorem names. -/
import Derived.Test.YtchkojfhcdcnmaaGreatCkEq
namespace Go.Proofs.YtchkojfhcdcnmaaGreatCk.Ev
open Go
set_option autoImplicit false
set_option linter.unusedVariables false
set_option linter.unusedSimpArgs false
theorem w64 {x:Int} (h: -9223372036854775808<=x) (k:x<9223372036854775808):IntKind.i64.wrap x=x:=by
 rw [IntKind.wrap_i64];omega
theorem zJn {α:Type} (xs:List α) (i:Nat):idx xs (i:Int)=xs[i]?:=by simp [idx]
theorem zCv {α:Type} (xs:List α):idx xs 0=xs[0]?:=by simp [idx]
theorem zd {α:Type} {xs:List α} {i:Nat} (h:i<xs.length):idx xs (i:Int)=some xs[i]:=by simp [idx,h]
theorem zb {i:Nat} (h:i<4611686018427387904):IntKind.i64.wrap ((i:Int)+1)=((i+1:Nat):Int):=by
 rw [w64 (by omega) (by omega)];rfl
abbrev TSign:=List Int×Unit
abbrev TLit:=Bool×List Int×List Int×Unit
def smL (x:TLit):Prop:=x.2.1.length<=1048576∧x.2.2.1.length<=1048576
theorem wu64 {x:Int} (h:0<=x) (k:x<18446744073709551616):IntKind.u64.wrap x=x:=by
 simp only [IntKind.wrap,IntKind.bits,IntKind.signed,Bool.false_and,qg,qe];omega
abbrev TCur:=List Int×Int×Int×Unit
theorem zQ (c:TCur):(c.1,c.2.1,c.2.2.1,())=c:=rfl
def Cu (code:List Int) (j:Int) (c:TCur):Prop:=c.1=code∧0<=c.2.1∧c.2.1<=j
def isBytes (code:List Int):Prop:=code.length<=1048576∧ ∀b∈code,0<=b∧b<=255
theorem and255 (x:Int):0<=bitsI .and .u64 x 255∧bitsI .and .u64 x 255<=255:=by
 have h:(BitVec.ofInt 64 x &&& BitVec.ofInt 64 255).toNat<=255:=by
  rw [BitVec.toNat_and];exact Nat.le_trans Nat.and_le_right (by decide)
 have e:bitsI .and .u64 x 255=IntKind.u64.wrap (((BitVec.ofInt 64 x &&& BitVec.ofInt 64 255).toNat:Nat):Int):=rfl;rw [e,wu64 (by omega) (by omega)];omega
theorem zGk {code:List Int} (hb:isBytes code) {j:Int} (hj:j<=1000000000) {c:TCur} (hc:Cu code j c): ∃x c',zhN M c=some ((x,()),(c',()))∧0<=x∧x<=255∧Cu code (j+1) c':=by
 obtain ⟨h1,h2,h3⟩:=hc;have hin:IntKind.i64.wrap (c.2.1+1)=c.2.1+1:=w64 (by omega) (by omega)
 have tail: ∀(x0:Int),0<=x0->x0<=255->(∃r:(Int×Unit)×(TCur×Unit),(if (decide ((IntKind.i64.wrap (c.2.1+(1:Int)))<=(List.length c.1:Int)))=true then (some ((x0,()),((c.1,(IntKind.i64.wrap (c.2.1+(1:Int))),(IntKind.u64.wrap ((IntKind.u64.wrap ((IntKind.u64.wrap (c.2.2.1*(6364136223846793005:Int)))+(IntKind.u64.wrap x0)))+(1442695040888963407:Int))),()),()))) else (if (40:Int)<0 then none else (some (((IntKind.i64.wrap (bitsI .and .u64 (shrI .u64 (IntKind.u64.wrap ((IntKind.u64.wrap ((IntKind.u64.wrap (c.2.2.1*(6364136223846793005:Int)))+(IntKind.u64.wrap x0)))+(1442695040888963407:Int))) (40:Int)) (255:Int))),()),((c.1,(IntKind.i64.wrap (c.2.1+(1:Int))),(IntKind.u64.wrap ((IntKind.u64.wrap ((IntKind.u64.wrap (c.2.2.1*(6364136223846793005:Int)))+(IntKind.u64.wrap x0)))+(1442695040888963407:Int))),()),())))))=some r∧0<=r.1.1∧r.1.1<=255∧Cu code (j+1) r.2.1):=by
  intro x0 g0 g1;rw [hin];by_cases hq:c.2.1+1<=(List.length c.1:Int)
  ·rw [qb (by simpa using hq)];exact ⟨_,rfl,g0,g1,h1,by show 0<=c.2.1+1;omega,by show c.2.1+1<=j+1;omega⟩
  ·rw [qc (by simpa using hq),qc (by omega)];have ha:=and255 (shrI .u64 (IntKind.u64.wrap ((IntKind.u64.wrap ((IntKind.u64.wrap (c.2.2.1*(6364136223846793005:Int)))+(IntKind.u64.wrap x0)))+(1442695040888963407:Int))) (40:Int));refine ⟨_,rfl,?_,?_,h1,by show 0<=c.2.1+1;omega,by show c.2.1+1<=j+1;omega⟩
   ·show 0<=IntKind.i64.wrap _;rw [w64 (by omega) (by omega)];exact ha.1
   ·show IntKind.i64.wrap _<=255;rw [w64 (by omega) (by omega)];exact ha.2
 by_cases hl:c.2.1<(List.length c.1:Int)
 ·obtain ⟨m,hm⟩: ∃m:Nat,c.2.1=(m:Int):=⟨c.2.1.toNat,by omega⟩;have hml:m<c.1.length:=by omega
  have hbb:=hb.2 (c.1[m]) (by rw [<-h1];exact qi hml);obtain ⟨r,r1,r2,r3,r4⟩:=tail c.1[m] hbb.1 hbb.2;refine ⟨r.1.1,r.2.1,zsQ _ ?_,r2,r3,r4⟩;simp only [zkd];have hix:idx c.1 c.2.1=some c.1[m]:=by rw [hm,zd hml]
  rw [qb (by simpa using hl),hix];simp only [qa];rw [w64 (x:=c.1[m]) (by omega) (by omega)];simp only [qa,qd];exact r1
 ·obtain ⟨r,r1,r2,r3,r4⟩:=tail 0 (by omega) (by omega);refine ⟨r.1.1,r.2.1,zsQ _ ?_,r2,r3,r4⟩;simp only [zkd];rw [qc (by simpa using hl)];simp only [qa,qd];exact r1
theorem zC1 {code:List Int} (hb:isBytes code) {j:Int} (hj:j<=100000000) {c:TCur} (hc:Cu code j c) (n:Int) (hn:n<=1000000000): ∃x c',zf M c n=some ((x,()),(c',()))∧0<=x∧(x<n∨x=0)∧Cu code (j+2) c':=by
 by_cases h1:n<=1
 ·refine ⟨0,c,znN _ _ ?_,by omega,.inr rfl,hc.1,hc.2.1,by have:=hc.2.2;omega⟩;simp only [zhv];rw [qb (by simpa using h1)]
 ·obtain ⟨x,c',n1,n2,n3,n4⟩:=zGk hb (by omega) hc;by_cases h2:n>200
  ·obtain ⟨y,c'',m1,m2,m3,m4⟩:=zGk hb (by omega) n4;have hw:IntKind.i64.wrap (IntKind.i64.wrap (x*256)+y)=x*256+y:=by rw [w64 (x:=x*256) (by omega) (by omega),w64 (by omega) (by omega)]
   refine ⟨Int.tmod (x*256+y) n,c'',znN _ _ ?_,Int.tmod_nonneg _ (by omega),.inl (Int.tmod_lt_of_pos _ (by omega)),m4.1,m4.2.1,by have:=m4.2.2;omega⟩;simp only [zhv];rw [qc (by simpa using h1),zQ,n1];simp only [qa];rw [qb (by simpa using h2),zQ,m1];simp only [qa,qd];rw [qc (by omega),hw]
  ·refine ⟨Int.tmod x n,c',znN _ _ ?_,Int.tmod_nonneg _ (by omega),.inl (Int.tmod_lt_of_pos _ (by omega)),n4.1,n4.2.1,by have:=n4.2.2;omega⟩;simp only [zhv];rw [qc (by simpa using h1),zQ,n1];simp only [qa];rw [qc (by simpa using h2)];simp only [qa,qd];rw [qc (by omega)]
theorem zKp {code:List Int} (hb:isBytes code) {j:Int} (hj:j<=100000000) {c:TCur} (hc:Cu code j c) (n:Int) (hn:n<=1000000000): ∃x c',zay M c n=some ((x,()),(c',()))∧Cu code (j+2) c':=by
 obtain ⟨x,c',n1,_,_,n4⟩:=zC1 hb hj hc n hn;refine ⟨x==0,c',zy1 _ _ ?_,n4⟩;simp only [zoV,zQ,n1,qa]
def Okk {α:Type} (P:α->Prop) (o:Option α):Prop:= ∃x,o=some x∧P x
theorem Okk.pure {α:Type} {P:α->Prop} {x:α} (h:P x):Okk P (some x):=⟨x,rfl,h⟩
theorem Okk.bind {α β:Type} {P:α->Prop} {Q:β->Prop} {o:Option α} {f:α->Option β} (h:Okk P o) (k: ∀x,P x->Okk Q (f x)):Okk Q (o.bind f):=by
 obtain ⟨x,rfl,hx⟩:=h;exact k x hx
theorem Okk.ite {α:Type} {P:α->Prop} {c:Prop} [Decidable c] {a b:Option α} (h:c->Okk P a) (k: ¬c->Okk P b):Okk P (if c then a else b):=by
 by_cases hc:c
 ·rw [qb hc];exact h hc
 ·rw [qc hc];exact k hc
theorem Okk.iteT {α:Type} {P:α->Prop} {c:Prop} [Decidable c] {a b:Option α} (hc:c) (h:Okk P a):Okk P (if c then a else b):=by rw [qb hc];exact h
theorem Okk.iteF {α:Type} {P:α->Prop} {c:Prop} [Decidable c] {a b:Option α} (hc: ¬c) (h:Okk P b):Okk P (if c then a else b):=by rw [qc hc];exact h
theorem Okk.mono {α:Type} {P Q:α->Prop} {o:Option α} (h:Okk P o) (k: ∀x,P x->Q x):Okk Q o:=by
 obtain ⟨x,hx,p⟩:=h;exact ⟨x,hx,k x p⟩
theorem Okk.lift {α:Type} {P:α->Prop} {o c:Option α} (h:Okk P o) (k: ∀ {r},o=some r->c=some r):Okk P c:=by
 obtain ⟨x,hx,p⟩:=h;exact ⟨x,k hx,p⟩
theorem Okk.idx {α:Type} {l:List α} {i:Int} (h:0<=i) (k:i<l.length):Okk (fun x=>x∈l) (idx l i):=by
 obtain ⟨m,rfl⟩: ∃m:Nat,i=(m:Int):=⟨i.toNat,by omega⟩;have hm:m<l.length:=by omega
 exact ⟨l[m],zd hm,qi hm⟩
theorem Okk.get {α:Type} {l:List α} {i:Nat} (k:i<l.length):Okk (fun x=>x∈l) (l[i]?):=⟨l[i],by simp [k],qi k⟩
theorem Cu.mono {code:List Int} {i j:Int} {c:TCur} (h:Cu code i c) (k:i<=j):Cu code j c:=⟨h.1,h.2.1,by have:=h.2.2;omega⟩
section
variable {code : List Int} (hb : isBytes code) {j : Int} {c : TCur} (hc : Cu code j c)
include hb hc
theorem zei (n:Int) (hj:j<=100000000) (hn:n<=1000000000):Okk (fun r=>0<=r.1.1∧(r.1.1<n∨r.1.1=0)∧Cu code (j+2) r.2.1) (zf M c n):=by
 obtain ⟨x,c',h,h1,h2,h3⟩:=zC1 hb hj hc n hn;exact ⟨_,h,h1,h2,h3⟩
theorem zp3 (n:Int) (hj:j<=100000000) (hn:n<=1000000000):Okk (fun r=>Cu code (j+2) r.2.1) (zay M c n):=by
 obtain ⟨x,c',h,h1⟩:=zKp hb hj hc n hn;exact ⟨_,h,h1⟩
end
def SgD (a:List Int):Prop:=a.length<=10∧ ∀x∈a,0<=x∧x<=3
theorem dec64 {x:Int} (h: -9223372036854775807<=x) (k:x<9223372036854775808):IntKind.i64.wrap (x-1)=x-1:=w64 (by omega) (by omega)
section
variable {code : List Int} (hb : isBytes code)
include hb
theorem zJz {j:Int} (hj:j<=1000000) {c:TCur} (hc:Cu code j c):Okk (fun r=>SgD r.1.1.1∧Cu code (j+2) r.2.1) (zkf M c):=by
 refine Okk.lift ?_ (zyn c);simp only [znU];refine Okk.bind (P:=fun y=> ∃c' a,y= .inl (c',([],()),(a,()),())∧SgD a∧Cu code (j+2) c') ?_ ?_
 ·refine Okk.bind (zei hb hc 40 (by omega) (by omega)) ?_
  rintro ⟨⟨x,⟨⟩⟩,⟨c',⟨⟩⟩⟩ ⟨_,_,h⟩
  refine Okk.ite (fun _=> .pure ⟨c',_,rfl,by simp [SgD],h⟩) fun _=>Okk.ite (fun _=> .pure ⟨c',_,rfl,by simp [SgD],h⟩) fun _=>Okk.ite (fun _=> .pure ⟨c',_,rfl,by simp [SgD],h⟩) fun _=> .pure ⟨c',_,rfl,by simp [SgD],h⟩
 ·rintro _ ⟨c',a,rfl,h1,h2⟩
  exact .pure ⟨h1,h2⟩
theorem zyq {a:List Int} (ha:SgD a) (vars:Int) (hv:vars<=1000) (deep:Int) {j:Int} (hj:j<=1000000) {c:TCur} (hc:Cu code j c) (N:Nat) (hN:1<=N) (K:Int) (hK:j+6<=K)
  (hL:1<deep-> ∀(n v:Int) (c4:TCur),0<=v->v<=3->Cu code (j+6) c4->Okk (fun y=> ∃(c5:TCur) (t:List Int),y= .inl (c5,t,())∧0<t.length∧t.length<=N∧Cu code K c5) (zag M c4 deep vars (a,()) [n] v)):
  Okk (fun r=>r.1.1.length<=N∧0<r.1.1.length∧Cu code K r.2.1) (zcb M c (a,()) deep vars):=by
 refine Okk.lift ?_ (zx7 c (a,()) deep vars);simp only [znV,zQ];have hal:=ha.1;refine Okk.ite (fun _=> .pure ⟨hN,by simp,hc.mono (by omega)⟩) fun h0=>?_
 have hpos:0<a.length:=by simp at h0;exact qZ.2 h0
 have A: ∀(x:Int) (c3:TCur),0<=x->(x<(a.length:Int)∨x=0)->Cu code (j+4) c3->Okk (fun y=> ∃(c4:TCur) (n:Int),y= .inl (c4,deep,vars,(a,()),n,())∧0<=n∧n<a.length∧Cu code (j+6) c4) ((((idx a x).bind fun x5=>(if (decide (x5>(0:Int)))=true then (if (decide (deep<=(1:Int)))=true then ((zf M c3 (List.length a:Int)).bind fun r6=>(if (2:Int)=0 then none else (some (.inl ((r6.2.1.1,r6.2.1.2.1,r6.2.1.2.2.1,()),deep,vars,(a,()),(IntKind.i64.wrap (Int.tdiv r6.1.1 (2:Int))),()))))) else (some (.inl (c3,deep,vars,(a,()),x,())))) else (some (.inl (c3,deep,vars,(a,()),x,()))))):Option ((((List Int)×Int×Int×Unit)×Int×Int×((List Int)×Unit)×Int×Unit)⊕((List Int)×Unit)×(((List Int)×Int×Int×Unit)×Unit)))):=by
  intro x c3 hx0 hx1 hc3;refine Okk.bind (Okk.idx hx0 (by omega)) fun y hy=>?_
  refine Okk.ite (fun _=>Okk.ite (fun _=>?_) fun _=> .pure ⟨c3,x,rfl,hx0,by omega,hc3.mono (by omega)⟩) fun _=> .pure ⟨c3,x,rfl,hx0,by omega,hc3.mono (by omega)⟩
  refine Okk.bind (zei hb hc3 _ (by omega) (by omega)) ?_
  rintro ⟨⟨z,⟨⟩⟩,⟨c4,⟨⟩⟩⟩ ⟨h1,h2,h3⟩
  simp only at h1 h2 h3;have h5:=Int.tdiv_nonneg h1 (show (0:Int)<=2 by omega);have h6:Int.tdiv z 2<=z:=by rw [Int.tdiv_eq_ediv_of_nonneg h1];omega
  refine Okk.iteF (by omega) (.pure ⟨c4,_,rfl,?_,?_,h3.mono (by omega)⟩)
  ·simp only;rw [w64 (by omega) (by omega)];exact h5
  ·simp only;rw [w64 (by omega) (by omega)];omega
 have B: ∀(n:Int) (c4:TCur),0<=n->n<(a.length:Int)->Cu code (j+6) c4->Okk (fun r:((List Int)×Unit)×(TCur×Unit)=>r.1.1.length<=N∧0<r.1.1.length∧Cu code K r.2.1) ((idx a n).bind fun x7=>(if (decide (x7>(0:Int)))=true then (if (decide (deep<=(1:Int)))=true then (some ((([(0:Int)]:List Int),()),(c4,()))) else ((idx a n).bind fun x8=>((zag M c4 deep vars (a,()) ([n]:List Int) x8).bind (Sum.elim (fun y9=>(some ((y9.2.1,()),((y9.1.1,y9.1.2.1,y9.1.2.2.1,()),())))) (fun r10=>(some r10)))))) else ((idx a n).bind fun x11=>((zag M c4 deep vars (a,()) ([n]:List Int) x11).bind (Sum.elim (fun y12=>(some ((y12.2.1,()),((y12.1.1,y12.1.2.1,y12.1.2.2.1,()),())))) (fun r13=>(some r13))))))):=by
  intro n c4 hn0 hn1 hc4;obtain ⟨v,hv1,hv2⟩:=Okk.idx (l:=a) hn0 hn1;rw [hv1];simp only [qa];have:=ha.2 v hv2;refine Okk.ite (fun hv3=>?_) fun hv3=>?_
  ·refine Okk.ite (fun _=> .pure ⟨hN,by simp,hc4.mono (by omega)⟩) fun hd=>?_
   refine Okk.bind (hL (by simp at hd;omega) n v c4 (by omega) (by omega) hc4) ?_
   rintro _ ⟨c5,t,rfl,t1,t2,t3⟩
   exact .pure ⟨t2,t1,t3⟩
  ·obtain rfl:v=0:=by simp at hv3;omega
   have hl:zag M c4 deep vars (a,()) [n] 0=some (.inl (c4,[n],())):=by
    apply zja;simp [zdG,zQ]
   rw [hl];exact .pure ⟨hN,by simp,hc4.mono (by omega)⟩
 refine Okk.ite (fun _=>?_) fun _=>?_
 ·refine Okk.bind (zp3 hb hc 3 (by omega) (by omega)) ?_
  rintro ⟨⟨x,⟨⟩⟩,⟨c2,⟨⟩⟩⟩ h2
  refine Okk.ite (fun _=>?_) fun _=>?_
  ·refine Okk.bind (zei hb h2 vars (by omega) (by omega)) ?_
   rintro ⟨⟨y,⟨⟩⟩,⟨c3,⟨⟩⟩⟩ ⟨_,_,h3⟩
   exact .pure ⟨hN,by simp,h3.mono (by omega)⟩
  ·refine Okk.bind (zei hb h2 _ (by omega) (by omega)) ?_
   rintro ⟨⟨y,⟨⟩⟩,⟨c3,⟨⟩⟩⟩ ⟨g1,g2,h3⟩
   refine Okk.bind (A y c3 g1 g2 (h3.mono (by omega))) ?_
   rintro _ ⟨c4,n,rfl,k1,k2,k3⟩
   exact B n c4 k1 k2 k3
 ·refine Okk.bind (zei hb hc _ (by omega) (by omega)) ?_
  rintro ⟨⟨y,⟨⟩⟩,⟨c3,⟨⟩⟩⟩ ⟨g1,g2,h3⟩
  refine Okk.bind (A y c3 g1 g2 (h3.mono (by omega))) ?_
  rintro _ ⟨c4,n,rfl,k1,k2,k3⟩
  exact B n c4 k1 k2 k3
def dl:Nat->Nat
 | 0=>1
 | d+1=>1+3*dl d
def dk:Nat->Int
 | 0=>6
 | d+1=>6+3*dk d
omit hb in
theorem zJy (d:Nat):1<=dl d:=by cases d<;>simp [dl]
omit hb in
theorem zJS (d:Nat):6<=dk d:=by
 induction d with
 | zero=>simp [dk]
 | succ d ih=>simp [dk];omega
theorem zzr {a:List Int} (ha:SgD a) (vars:Int) (hv:vars<=1000): ∀(d:Nat) (deep:Int) (j:Int) (c:TCur),deep<=(d:Int)+1->d<=5->j+dk d<=200000->Cu code j c->Okk (fun r=>r.1.1.length<=dl d∧0<r.1.1.length∧Cu code (j+dk d) r.2.1) (zcb M c (a,()) deep vars):=by
 intro d
 induction d with
 | zero=>
  intro deep j c hd _ hj hc;simp only [dk] at hj
  exact zyq hb ha vars hv deep (by omega) hc 1 (by omega) (j+6) (by omega) (fun h=>by omega)
 | succ d ih=>
  intro deep j c hd hd5 hj hc
  have hdl:dl d<=1000:=by
   have:d<=4:=by omega
   rcases d with _ | _ | _ | _ | _ | d<;>first | (simp [dl];done) | omega
  have hdk:dk d<=10000:=by
   rcases d with _ | _ | _ | _ | _ | d<;>first | (simp [dk];done) | omega
  have hp:=zJS d;simp only [dk] at hj
  have loop:1<deep-> ∀(k:Nat) (out:List Int) (j':Int) (c4:TCur),k<=3->0<out.length->out.length+k*dl d<=10000->j'+k*dk d<=j+6+3*dk d->Cu code j' c4->Okk (fun y=> ∃(c5:TCur) (t:List Int),y= .inl (c5,t,())∧0<t.length∧t.length<=out.length+k*dl d∧Cu code (j'+k*dk d) c5) (zag M c4 deep vars (a,()) out (k:Int)):=by
   intro hdeep k
   induction k with
   | zero=>
    intro out j' c4 _ h0 _ _ hc4;refine Okk.lift ?_ (zja _ _ _ _ _ _);simp only [zdG,zQ]
    refine Okk.iteF (by simp) (.pure ⟨c4,out,rfl,h0,by omega,hc4.mono (by simp)⟩)
   | succ k ihk=>
    intro out j' c4 hk h0 ho hj2 hc4;have e1:((k+1:Nat):Int)*dk d=k*dk d+dk d:=by rw [Int.natCast_add,Int.add_mul];simp
    have e2:(k+1)*dl d=k*dl d+dl d:=by rw [Nat.add_mul];simp
    have e3:0<=(k:Int)*dk d:=Int.mul_nonneg (by omega) (by omega);rw [e1] at hj2;rw [e2] at ho;refine Okk.lift ?_ (zja _ _ _ _ _ _);simp only [zdG,zQ];refine Okk.iteT (by simp<;>omega) ?_;rw [dec64 (x:=deep) (by omega) (by omega),dec64 (x:=((k+1:Nat):Int)) (by omega) (by omega),show ((k+1:Nat):Int)-1=(k:Int) by omega];refine Okk.bind (ih (deep-1) j' c4 (by omega) (by omega) (by omega) hc4) ?_
    rintro ⟨⟨t,⟨⟩⟩,⟨c5,⟨⟩⟩⟩ ⟨g1,g2,g3⟩
    simp only at g1 g2 g3;refine Okk.iteT (by simp only;omega) ?_;refine Okk.mono (ihk (out++t) (j'+dk d) c5 (by omega) (by simp;omega) (by rw [qK];omega) (by omega) g3) ?_
    rintro _ ⟨c6,t',rfl,h1,h2,h3⟩
    refine ⟨c6,t',rfl,h1,?_,h3.mono (by rw [e1];omega)⟩;rw [qK] at h2;rw [e2];omega
  refine zyq hb ha vars hv deep (by omega) hc (dl (d+1)) (zJy _) (j+dk (d+1)) (by simp only [dk];omega) ?_;intro hdeep n v c4 hv0 hv3 hc4;obtain ⟨k,rfl⟩: ∃m:Nat,v=(m:Int):=⟨v.toNat,by omega⟩;have e4:(k:Int)*dk d<=3*dk d:=Int.mul_le_mul_of_nonneg_right (by omega) (by omega);have e5:k*dl d<=3*dl d:=Nat.mul_le_mul_right _ (by omega);refine Okk.mono (loop hdeep k [n] (j+6) c4 (by omega) (by simp) (by simp only [qD,qR];omega) (by omega) hc4) ?_
  rintro _ ⟨c6,t',rfl,h1,h2,h3⟩
  refine ⟨c6,t',rfl,h1,?_,h3.mono (by simp only [dk];omega)⟩;simp only [qD,qR] at h2;simp only [dl];omega
end
theorem zIJ {code:List Int} (hb:isBytes code) {j:Int} (hj:j<=100000000) {c:TCur} (hc:Cu code j c) (l:List Int) (hl:l.length<=1000000) (hl0:0<l.length): ∃x c',zbW M c l=some ((x,()),(c',()))∧x∈l∧Cu code (j+2) c':=by
 obtain ⟨x,c',n1,n2,n3,n4⟩:=zC1 hb hj hc l.length (by omega);obtain ⟨m,rfl⟩: ∃m:Nat,x=(m:Int):=⟨x.toNat,by omega⟩;have hm:m<l.length:=by omega
 refine ⟨l[m],c',zxP _ _ ?_,qi hm,n4⟩;simp only [zm4,zQ,n1,qa];rw [zd hm];rfl
section
variable {code : List Int} (hb : isBytes code) {j : Int} {c : TCur} (hc : Cu code j c)
include hb hc
theorem zvA (l:List Int) (hj:j<=100000000) (hl:l.length<=1000000) (hl0:0<l.length):Okk (fun r=>r.1.1∈l∧Cu code (j+2) r.2.1) (zbW M c l):=by
 obtain ⟨x,c',h,h1,h2⟩:=zIJ hb hj hc l hl hl0;exact ⟨_,h,h1,h2⟩
end
section
variable {code : List Int} (hb : isBytes code)
include hb
def liD (x:TLit):Prop:=x.2.1.length<=100∧x.2.2.1.length<=100
theorem zIj {a:List Int} (ha:SgD a) {j:Int} (hj:j<=90000) {c:TCur} (hc:Cu code j c):Okk (fun r=>liD r.1.1∧Cu code (j+1000) r.2.1) (zij M c (a,())):=by
 refine Okk.lift ?_ (zzh c (a,()));simp only [zoW,zQ];refine Okk.bind (zp3 hb hc 3 (by omega) (by omega)) ?_
 rintro ⟨⟨b,⟨⟩⟩,⟨c1,⟨⟩⟩⟩ h1
 refine Okk.bind (zei hb h1 3 (by omega) (by omega)) ?_
 rintro ⟨⟨n,⟨⟩⟩,⟨c2,⟨⟩⟩⟩ ⟨n1,n2,h2⟩
 simp only at n1 n2 h2;refine Okk.bind (zzr hb ha 3 (by omega) 3 (IntKind.i64.wrap (1+n)) (j+4) c2 (by rw [w64 (by omega) (by omega)];omega) (by omega) (by simp only [dk];omega) (h2.mono (by omega))) ?_
 rintro ⟨⟨t,⟨⟩⟩,⟨c3,⟨⟩⟩⟩ ⟨t1,_,h3⟩
 simp only [dl,dk] at t1 h3;refine Okk.bind (zei hb h3 2 (by omega) (by omega)) ?_
 rintro ⟨⟨m,⟨⟩⟩,⟨c4,⟨⟩⟩⟩ ⟨m1,m2,h4⟩
 simp only at m1 m2 h4;refine Okk.bind (zzr hb ha 3 (by omega) 3 (IntKind.i64.wrap (1+m)) (j+400) c4 (by rw [w64 (by omega) (by omega)];omega) (by omega) (by simp only [dk];omega) (h4.mono (by omega))) ?_
 rintro ⟨⟨u,⟨⟩⟩,⟨c5,⟨⟩⟩⟩ ⟨u1,_,h5⟩
 simp only [dl,dk] at u1 h5;refine Okk.bind (P:=fun y=> ∃(c':TCur) (z x:TLit),y= .inl (c',z,x,())∧liD x∧Cu code (j+1000) c') ?_ ?_
 ·refine Okk.bind (zp3 hb h5 3 (by omega) (by omega)) ?_
  rintro ⟨⟨b2,⟨⟩⟩,⟨c6,⟨⟩⟩⟩ h6
  refine Okk.ite (fun _=> .pure ⟨c6,_,_,rfl,⟨by simp only;omega,by simp⟩,h6.mono (by omega)⟩) fun _=> .pure ⟨c6,_,_,rfl,⟨by simp only;omega,by simp only;omega⟩,h6.mono (by omega)⟩
 ·rintro _ ⟨c',z,x,rfl,h1,h2⟩
  exact .pure ⟨h1,h2⟩
theorem zBL {a:List Int} (ha:SgD a): ∀(k:Nat) (j:Int) (c:TCur) (out:List TLit),k<=20->out.length+k<=20->j+1000*k<=90000->(∀x∈out,liD x)->Cu code j c->Okk (fun y=> ∃(c':TCur) (o:List TLit),y= .inl (c',(a,()),o,())∧o.length=out.length+k∧(∀x∈o,liD x)∧Cu code (j+1000*k) c') (zej M c (a,()) out (k:Int)):=by
 intro k
 induction k with
 | zero=>
  intro j c out _ _ _ hx hc;refine Okk.lift ?_ (znA _ _ _ _);simp only [zfS,zQ]
  exact Okk.iteF (by simp) (.pure ⟨c,out,rfl,by simp,hx,by simpa using hc⟩)
 | succ k ih=>
  intro j c out hk ho hj hx hc;refine Okk.lift ?_ (znA _ _ _ _);simp only [zfS,zQ];refine Okk.iteT (by simp<;>omega) ?_;rw [dec64 (by omega) (by omega),show ((k+1:Nat):Int)-1=(k:Int) by omega];refine Okk.bind (zIj hb ha (by omega) hc) ?_
  rintro ⟨⟨x,⟨⟩⟩,⟨c1,⟨⟩⟩⟩ ⟨h1,h2⟩
  refine Okk.iteT (by simp only [qD,qR];omega) ?_
  ·refine Okk.mono (ih (j+1000) c1 (out++ [x]) (by omega) (by simp;omega) (by omega) ?_ h2) ?_
   ·intro y hy;simp only [qt,qM] at hy;rcases hy with hy | rfl
    ·exact hx y hy
    ·exact h1
   ·rintro _ ⟨c',o,rfl,g1,g2,g3⟩
    exact ⟨c',o,rfl,by rw [g1,qK];simp only [qD,qR];omega,g2,g3.mono (by omega)⟩
theorem zBF {a:List Int} (ha:SgD a): ∀(k:Nat) (j:Int) (c:TCur) (out:List TLit),out.length+k=9->j+1010*(k+1)<=90000->(∀x∈out,liD x)->Cu code j c->Okk (fun y=> ∃(c':TCur) (o:List TLit),y= .inl (c',o,())∧o.length<=9∧(∀x∈o,liD x)∧Cu code (j+1010*(k+1)) c') (zdi M c (a,()) out):=by
 intro k
 induction k with
 | zero=>
  intro j c out ho hj hx hc;refine Okk.lift ?_ (zmv _ _ _);simp only [ze4,zQ];refine Okk.bind (zei hb hc 2 (by omega) (by omega)) ?_
  rintro ⟨⟨n,⟨⟩⟩,⟨c1,⟨⟩⟩⟩ ⟨n1,n2,h1⟩
  simp only at n1 n2 h1;simp only [w64 (x:=8+n) (by omega) (by omega)]
  exact Okk.iteF (by simp;omega) (.pure ⟨c1,out,rfl,by omega,hx,h1.mono (by omega)⟩)
 | succ k ih=>
  intro j c out ho hj hx hc;refine Okk.lift ?_ (zmv _ _ _);simp only [ze4,zQ];refine Okk.bind (zei hb hc 2 (by omega) (by omega)) ?_
  rintro ⟨⟨n,⟨⟩⟩,⟨c1,⟨⟩⟩⟩ ⟨n1,n2,h1⟩
  simp only at n1 n2 h1;refine Okk.ite (fun _=>?_) fun _=> .pure ⟨c1,out,rfl,by omega,hx,h1.mono (by omega)⟩
  refine Okk.bind (zIj hb ha (by omega) h1) ?_
  rintro ⟨⟨x,⟨⟩⟩,⟨c2,⟨⟩⟩⟩ ⟨g1,g2⟩
  refine Okk.iteT (by simp only [qD,qR];omega) ?_;refine Okk.mono (ih (j+1002) c2 (out++ [x]) (by simp;omega) (by omega) ?_ (g2.mono (by omega))) ?_
  ·intro y hy;simp only [qt,qM] at hy;rcases hy with hy | rfl
   ·exact hx y hy
   ·exact g1
  ·rintro _ ⟨c',o,rfl,k1,k2,k3⟩
   exact ⟨c',o,rfl,k1,k2,k3.mono (by omega)⟩
theorem zG6 {a:List Int} (ha:SgD a) {j:Int} (hj:j<=70000) {c:TCur} (hc:Cu code j c):Okk (fun r=>r.1.1.length<=9∧(∀x∈r.1.1,liD x)∧Cu code (j+20000) r.2.1) (ziV M c (a,())):=by
 refine Okk.lift ?_ (zwu c (a,()));simp only [zmh,zQ];refine Okk.bind (zvA hb hc [0,1,1,1,2,2,3] (by omega) (by simp) (by simp)) ?_
 rintro ⟨⟨n,⟨⟩⟩,⟨c1,⟨⟩⟩⟩ ⟨n1,h1⟩
 simp only at n1 h1;obtain ⟨k,rfl,hk⟩: ∃m:Nat,n=(m:Int)∧m<=3:=⟨n.toNat,by simp at n1;omega,by simp at n1;omega⟩;refine Okk.bind (zBL hb ha k (j+2) c1 [] (by omega) (by simp;omega) (by omega) (by simp) h1) ?_
 rintro _ ⟨c2,o,rfl,o1,o2,h2⟩
 simp only [qR,qI] at o1;simp only [qd];refine Okk.bind (P:=fun y=> ∃(c':TCur) (o:List TLit),y= .inl (c',(a,()),o,())∧o.length<=4∧(∀x∈o,liD x)∧Cu code (j+3010) c') ?_ ?_
 ·refine Okk.ite (fun ho=>?_) fun _=> .pure ⟨c2,o,rfl,by omega,o2,h2.mono (by omega)⟩
  refine Okk.bind (zp3 hb h2 6 (by omega) (by omega)) ?_
  rintro ⟨⟨b,⟨⟩⟩,⟨c3,⟨⟩⟩⟩ h3
  refine Okk.ite (fun _=>?_) fun _=> .pure ⟨c3,o,rfl,by omega,o2,h3.mono (by omega)⟩
  refine Okk.bind (zei hb h3 _ (by omega) (by omega)) ?_
  rintro ⟨⟨i,⟨⟩⟩,⟨c4,⟨⟩⟩⟩ ⟨i1,i2,h4⟩
  simp only at i1 i2 h4;simp only [qC] at ho;refine Okk.iteT (by simp only;omega) ?_;refine Okk.bind (Okk.get (by simp only;omega)) fun x hx=>?_
  refine Okk.bind (zp3 hb h4 3 (by omega) (by omega)) ?_
  rintro ⟨⟨b2,⟨⟩⟩,⟨c5,⟨⟩⟩⟩ h5
  refine Okk.iteT (by simp only [qD,qR];omega) (.pure ⟨c5,_,rfl,by simp;omega,?_,h5.mono (by omega)⟩);intro y hy;simp only [qt,qM] at hy;have hxl:=o2 x hx;rcases hy with hy | rfl
  ·exact o2 y hy
  ·exact ⟨hxl.2,hxl.1⟩
 ·rintro _ ⟨c3,o',rfl,q1,q2,h3⟩
  simp only [qd];refine Okk.bind (P:=fun y=> ∃(c':TCur) (o:List TLit),y= .inl (c',(a,()),o,())∧o.length<=4∧(∀x∈o,liD x)∧Cu code (j+3020) c') ?_ ?_
  ·refine Okk.ite (fun ho=>?_) fun _=> .pure ⟨c3,o',rfl,by omega,q2,h3.mono (by omega)⟩
   refine Okk.bind (zp3 hb h3 12 (by omega) (by omega)) ?_
   rintro ⟨⟨b,⟨⟩⟩,⟨c4,⟨⟩⟩⟩ h4
   simp only [qC] at ho;refine Okk.ite (fun _=>?_) fun _=> .pure ⟨c4,o',rfl,by omega,q2,h4.mono (by omega)⟩
   refine Okk.iteT (by omega) ?_;refine Okk.bind (Okk.get (by simp only [Int.toNat_zero];omega)) fun x hx=>?_
   refine Okk.iteT (by omega) ?_;refine Okk.bind (Okk.get (by simp only [Int.toNat_zero];omega)) fun y hy=>?_
   refine .pure ⟨c4,_,rfl,by simp;omega,?_,h4.mono (by omega)⟩;intro z hz;rcases List.mem_or_eq_of_mem_set hz with hz | rfl
   ·exact q2 z hz
   ·exact ⟨(q2 y hy).1,(q2 x hx).1⟩
  ·rintro _ ⟨c4,o'',rfl,q3,q4,h4⟩
   simp only [qd];refine Okk.bind (P:=fun y=> ∃(c':TCur) (o:List TLit),y= .inl (c',o,())∧o.length<=9∧(∀x∈o,liD x)∧Cu code (j+20000) c') ?_ ?_
   ·refine Okk.bind (zei hb h4 60 (by omega) (by omega)) ?_
    rintro ⟨⟨i,⟨⟩⟩,⟨c5,⟨⟩⟩⟩ ⟨_,_,h5⟩
    simp only at h5;refine Okk.ite (fun _=>?_) fun _=>Okk.ite (fun _=>?_) fun _=> .pure ⟨c5,o'',rfl,by omega,q4,h5.mono (by omega)⟩
    ·refine Okk.bind (zBF hb ha (9-o''.length) (j+3022) c5 o'' (by omega) (by omega) q4 (h5.mono (by omega))) ?_
     rintro _ ⟨c6,o3,rfl,r1,r2,h6⟩
     exact .pure ⟨c6,o3,rfl,r1,r2,h6.mono (by omega)⟩
    ·refine Okk.iteT (by simp only [qD,qR];omega) (.pure ⟨c5,_,rfl,by simp;omega,?_,h5.mono (by omega)⟩);intro y hy;simp only [qt,qM] at hy;rcases hy with hy | rfl
     ·exact q4 y hy
     ·exact ⟨by simp,by simp⟩
   ·rintro _ ⟨c6,o3,rfl,r1,r2,h6⟩
    exact .pure ⟨r1,r2,h6⟩
end
abbrev TStep:=Int×List Int×List Int×List TLit×Unit
def smP (x:TStep):Prop:=x.2.1.length<=1048576∧x.2.2.1.length<=1048576∧x.2.2.2.1.length<=1048576∧ ∀l∈x.2.2.2.1,smL l
theorem zcz (x:TStep):(x.1,x.2.1,x.2.2.1,x.2.2.2.1,())=x:=rfl
def smC (c:List TLit):Prop:=c.length<=1048576∧ ∀x∈c,smL x
section
variable {code : List Int} (hb : isBytes code)
include hb
omit hb in
theorem zv4 {c:List TLit} (h:c.length<=20) (hx: ∀x∈c,liD x):smC c:=⟨by omega,fun x h'=>by have:=hx x h';exact ⟨by have:=this.1;omega,by have:=this.2;omega⟩⟩
omit hb in
theorem sg5:SgD [0,0,0,1,1]:=by simp [SgD]
theorem zEQ {a:List Int} (ha:SgD a): ∀(k:Nat) (j:Int) (c:TCur) (o:List (List TLit)),o.length+k<=4->(∀y∈o,smC y)->j+20000*k<=90000->Cu code j c->Okk (fun y=> ∃(c':TCur) (o':List (List TLit)),y= .inl (c',o',())∧o'.length<=4∧(∀y∈o',smC y)∧Cu code (j+20000*k) c') (zdK M c (a,()) o (k:Int)):=by
 intro k
 induction k with
 | zero=>
  intro j c o ho hx hj hc;refine Okk.lift ?_ (zm1 _ _ _ _);simp only [zfy,zQ]
  exact Okk.iteF (by simp) (.pure ⟨c,o,rfl,by omega,hx,hc.mono (by omega)⟩)
 | succ k ih=>
  intro j c o ho hx hj hc;refine Okk.lift ?_ (zm1 _ _ _ _);simp only [zfy,zQ];refine Okk.iteT (by simp<;>omega) ?_;refine Okk.bind (zG6 hb ha (by omega) hc) ?_
  rintro ⟨⟨d,⟨⟩⟩,⟨c1,⟨⟩⟩⟩ ⟨d1,d2,d3⟩
  simp only [zQ] at d1 d2 d3 ⊢;refine Okk.iteT (by simp;omega) ?_;rw [w64 (x:=((k+1:Nat):Int)-1) (by omega) (by omega),show ((k+1:Nat):Int)-1=(k:Int) by omega];refine Okk.mono (ih (j+20000) c1 (o++ [d]) (by simp;omega) ?_ (by omega) d3) ?_
  ·intro y hy;rcases qt.1 hy with h | h
   ·exact hx y h
   ·rw [qM.1 h];exact zv4 (by omega) d2
  ·rintro _ ⟨c',o',rfl,q1,q2,q3⟩
   exact ⟨c',o',rfl,q1,q2,q3.mono (by omega)⟩
theorem zJw {a:List Int} (ha:SgD a) {j:Int} (hj:j<=5000) {c:TCur} (hc:Cu code j c):Okk (fun r=>r.1.1.length<=4∧(∀y∈r.1.1,smC y)∧Cu code (j+85000) r.2.1) (zic M c (a,()) 4):=by
 refine Okk.lift ?_ (zwa c (a,()) 4);simp only [zlm,zQ];rw [w64 (x:=4+1) (by omega) (by omega)];refine Okk.bind (zei hb hc _ (by omega) (by omega)) ?_
 rintro ⟨⟨x,⟨⟩⟩,⟨c1,⟨⟩⟩⟩ ⟨x1,x2,g⟩
 simp only [zQ] at x1 x2 g ⊢;obtain ⟨n,rfl⟩: ∃n:Nat,x=(n:Int):=⟨x.toNat,by omega⟩;refine Okk.bind (zEQ hb ha n (j+2) c1 [] (by simp;omega) (by simp) (by omega) g) ?_
 rintro _ ⟨c',o',rfl,q1,q2,q3⟩
 exact .pure ⟨q1,q2,q3.mono (by omega)⟩
theorem zFm (vars:Int) (hv:vars<=1000) {j:Int} (hj:j<=150000) {c:TCur} (hc:Cu code j c):Okk (fun r=>liD r.1.1∧Cu code (j+1000) r.2.1) (zg6 M c vars):=by
 refine Okk.lift ?_ (zvn c vars);simp only [zk0,zQ];refine Okk.bind (zp3 hb hc 3 (by omega) (by omega)) ?_
 rintro ⟨⟨b,⟨⟩⟩,⟨c1,⟨⟩⟩⟩ h1
 refine Okk.bind (zei hb h1 2 (by omega) (by omega)) ?_
 rintro ⟨⟨n,⟨⟩⟩,⟨c2,⟨⟩⟩⟩ ⟨n1,n2,h2⟩
 simp only at n1 n2 h2;refine Okk.bind (zzr hb sg5 vars hv 3 (IntKind.i64.wrap (1+n)) (j+4) c2 (by rw [w64 (by omega) (by omega)];omega) (by omega) (by simp only [dk];omega) (h2.mono (by omega))) ?_
 rintro ⟨⟨t,⟨⟩⟩,⟨c3,⟨⟩⟩⟩ ⟨t1,_,h3⟩
 simp only [dl,dk] at t1 h3;refine Okk.bind (zzr hb sg5 vars hv 3 1 (j+400) c3 (by omega) (by omega) (by simp only [dk];omega) (h3.mono (by omega))) ?_
 rintro ⟨⟨u,⟨⟩⟩,⟨c5,⟨⟩⟩⟩ ⟨u1,_,h5⟩
 simp only [dl,dk] at u1 h5;refine Okk.bind (P:=fun y=> ∃(c':TCur) (z x:TLit),y= .inl (c',z,x,())∧liD x∧Cu code (j+1000) c') ?_ ?_
 ·refine Okk.bind (zp3 hb h5 2 (by omega) (by omega)) ?_
  rintro ⟨⟨b2,⟨⟩⟩,⟨c6,⟨⟩⟩⟩ h6
  refine Okk.ite (fun _=>?_) fun _=> .pure ⟨c6,_,_,rfl,⟨by simp only;omega,by simp only;omega⟩,h6.mono (by omega)⟩
  refine Okk.bind (zei hb h6 2 (by omega) (by omega)) ?_
  rintro ⟨⟨m,⟨⟩⟩,⟨c7,⟨⟩⟩⟩ ⟨_,_,h7⟩
  refine Okk.bind (zvA hb h7 [1,2,-1] (by omega) (by simp) (by simp)) ?_
  rintro ⟨⟨m2,⟨⟩⟩,⟨c8,⟨⟩⟩⟩ ⟨_,h8⟩
  refine Okk.bind (zvA hb h8 [0,0,1,2] (by omega) (by simp) (by simp)) ?_
  rintro ⟨⟨m3,⟨⟩⟩,⟨c9,⟨⟩⟩⟩ ⟨_,h9⟩
  exact .pure ⟨c9,_,_,rfl,⟨by simp,by simp⟩,h9.mono (by omega)⟩
 ·rintro _ ⟨c',z,x,rfl,h1,h2⟩
  exact .pure ⟨h1,h2⟩
theorem zJJ (z:TSign) (s:TSign) (l:List (List TLit)) (n:Int): ∀(k:Nat) (j:Int) (c:TCur) (out:List TLit),out.length+k<=10->j+1010*k<=140000->(∀x∈out,liD x)->Cu code j c->
  Okk (fun y=> ∃(c':TCur) (o:List TLit),y= .inl (c',z,s,l,n,o,())∧o.length=out.length+k∧(∀x∈o,liD x)∧Cu code (j+1010*k) c') (zcG M c z s l n out (k:Int)):=by
 intro k
 induction k with
 | zero=>
  intro j c out ho hj hx hc;refine Okk.lift ?_ (zla _ _ _ _ _ _ _);simp only [zdQ,zQ]
  exact Okk.iteF (by simp) (.pure ⟨c,out,rfl,rfl,hx,hc.mono (by omega)⟩)
 | succ k ih=>
  intro j c out ho hj hx hc;refine Okk.lift ?_ (zla _ _ _ _ _ _ _);simp only [zdQ,zQ];refine Okk.iteT (by simp<;>omega) ?_;refine Okk.bind (zei hb hc 2 (by omega) (by omega)) ?_
  rintro ⟨⟨v,⟨⟩⟩,⟨c1,⟨⟩⟩⟩ ⟨v1,v2,h1⟩
  simp only [zQ] at v1 v2 h1 ⊢;refine Okk.bind (zFm hb v (by omega) (by omega) h1) ?_
  rintro ⟨⟨x,⟨⟩⟩,⟨c2,⟨⟩⟩⟩ ⟨x1,h2⟩
  simp only [zQ] at x1 h2 ⊢;refine Okk.iteT (by simp;omega) ?_;rw [w64 (x:=((k+1:Nat):Int)-1) (by omega) (by omega),show ((k+1:Nat):Int)-1=(k:Int) by omega];refine Okk.mono (ih (j+1010) c2 (out++ [x]) (by simp;omega) (by omega) ?_ (h2.mono (by omega))) ?_
  ·intro y hy;rcases qt.1 hy with h | h
   ·exact hx y h
   ·rw [qM.1 h];exact x1
  ·rintro _ ⟨c',o',rfl,q1,q2,q3⟩
   exact ⟨c',o',rfl,by rw [q1];simp;omega,q2,q3.mono (by omega)⟩
def clD (c:List TLit):Prop:=0<c.length∧c.length<=10∧ ∀x∈c,liD x
theorem zJh (z s:TSign): ∀(k:Nat) (j:Int) (c:TCur) (out:List (List TLit)),out.length+k<=10->j+3000*k<=100000->(∀x∈out,clD x)->Cu code j c->
  Okk (fun y=> ∃(c':TCur) (o:List (List TLit)),y= .inl (c',z,s,o,())∧o.length=out.length+k∧(∀x∈o,clD x)∧Cu code (j+3000*k) c') (zdp M c z s out (k:Int)):=by
 intro k
 induction k with
 | zero=>
  intro j c out ho hj hx hc;refine Okk.lift ?_ (zmy _ _ _ _ _);simp only [ze5,zQ]
  exact Okk.iteF (by simp) (.pure ⟨c,out,rfl,rfl,hx,hc.mono (by omega)⟩)
 | succ k ih=>
  intro j c out ho hj hx hc;refine Okk.lift ?_ (zmy _ _ _ _ _);simp only [ze5,zQ];refine Okk.iteT (by simp<;>omega) ?_;refine Okk.bind (zvA hb hc [1,1,1,2,2] (by omega) (by simp) (by simp)) ?_
  rintro ⟨⟨v,⟨⟩⟩,⟨c1,⟨⟩⟩⟩ ⟨v1,h1⟩
  simp only [zQ] at v1 h1 ⊢;obtain ⟨m,rfl,m1,m2⟩: ∃m:Nat,v=(m:Int)∧1<=m∧m<=2:=⟨v.toNat,by simp at v1;omega,by simp at v1;omega,by simp at v1;omega⟩;refine Okk.bind (zJJ hb z s out ((k+1:Nat):Int) m (j+2) c1 [] (by simp;omega) (by omega) (by simp) h1) ?_
  rintro _ ⟨c2,d,rfl,d1,d2,h2⟩
  simp only [qd,zQ];refine Okk.iteT (by simp;omega) ?_;rw [w64 (x:=((k+1:Nat):Int)-1) (by omega) (by omega),show ((k+1:Nat):Int)-1=(k:Int) by omega];refine Okk.mono (ih (j+3000) c2 (out++ [d]) (by simp;omega) (by omega) ?_ (h2.mono (by omega))) ?_
  ·intro y hy;rcases qt.1 hy with h | h
   ·exact hx y h
   ·rw [qM.1 h];simp only [qR,qI] at d1;exact ⟨by omega,by omega,d2⟩
  ·rintro _ ⟨c',o',rfl,q1,q2,q3⟩
   exact ⟨c',o',rfl,by rw [q1];simp;omega,q2,q3.mono (by omega)⟩
theorem zF4 {j:Int} (hj:j<=4000) {c:TCur} (hc:Cu code j c):Okk (fun r=>SgD r.1.1.1∧r.1.2.1.length<=10∧(∀y∈r.1.2.1,smC y)∧Cu code (j+90000) r.2.1) (zh5 M c):=by
 refine Okk.lift ?_ (zwo c);simp only [zlo,zQ];refine Okk.bind (zp3 hb hc 20 (by omega) (by omega)) ?_
 rintro ⟨⟨b,⟨⟩⟩,⟨c1,⟨⟩⟩⟩ h1
 simp only [zQ] at h1 ⊢;refine Okk.ite (fun _=>?_) fun _=>?_
 ·refine Okk.bind (zJz hb (by omega) h1) ?_
  rintro ⟨⟨⟨a,⟨⟩⟩,⟨⟩⟩,⟨c2,⟨⟩⟩⟩ ⟨ha,h2⟩
  simp only [zQ] at ha h2 ⊢;refine Okk.bind (zJw hb ha (by omega) h2) ?_
  rintro ⟨⟨o,⟨⟩⟩,⟨c3,⟨⟩⟩⟩ ⟨o1,o2,h3⟩
  simp only at o1;exact .pure ⟨ha,(by show o.length<=10;omega),o2,h3.mono (by omega)⟩
 ·refine Okk.bind (zei hb h1 4 (by omega) (by omega)) ?_
  rintro ⟨⟨n,⟨⟩⟩,⟨c2,⟨⟩⟩⟩ ⟨n1,n2,h2⟩
  simp only [zQ] at n1 n2 h2 ⊢;rw [w64 (x:=1+n) (by omega) (by omega)];obtain ⟨m,em,m1,m2⟩: ∃m:Nat,1+n=(m:Int)∧1<=m∧m<=4:=⟨(1+n).toNat,by omega,by omega,by omega⟩;rw [em];refine Okk.bind (zJh hb ([],()) ([0,0,0,1,1],()) m (j+4) c2 [] (by simp;omega) (by omega) (by simp) (h2.mono (by omega))) ?_
  rintro _ ⟨c3,o,rfl,o1,o2,h3⟩
  simp only [qR,qI] at o1;simp only [qd,zQ];refine Okk.bind (P:=fun y=> ∃(c':TCur) (o':List (List TLit)),y= .inl (c',([],()),([0,0,0,1,1],()),o',())∧o'.length<=10∧(∀x∈o',smC x)∧Cu code (j+80000) c') ?_ ?_
  ·refine Okk.bind (zp3 hb h3 3 (by omega) (by omega)) ?_
   rintro ⟨⟨b2,⟨⟩⟩,⟨c4,⟨⟩⟩⟩ h4
   simp only [zQ] at h4 ⊢;refine Okk.ite (fun _=>?_) fun _=> .pure ⟨c4,o,rfl,by omega,fun x hx=>zv4 (by have:=(o2 x hx).2.1;omega) (o2 x hx).2.2,h4.mono (by omega)⟩
   refine Okk.iteT (by omega) ?_;refine Okk.bind (Okk.get (l:=o) (i:=(0:Int).toNat) (by simp;omega)) ?_;intro x hx;have hx':=o2 x hx;refine Okk.bind (Okk.idx (l:=x) (i:=0) (by omega) (by have:=hx'.1;omega)) ?_;intro y hy;have hy':=hx'.2.2 y hy;refine Okk.iteT (by simp;omega) ?_;refine .pure ⟨c4,_,rfl,by simp;omega,fun w hw=>?_,h4.mono (by omega)⟩;rcases qt.1 hw with h | h
   ·exact zv4 (by have:=(o2 w h).2.1;omega) (o2 w h).2.2
   ·rw [qM.1 h];exact zv4 (by simp) (fun q hq=>by rw [qM.1 hq];exact hy')
  ·rintro _ ⟨c',o',rfl,q1,q2,q3⟩
   exact .pure ⟨sg5,q1,q2,q3.mono (by omega)⟩
end
theorem zfq (x lo hi:Int):zV M x lo hi=some ((decide (lo<=x)&&decide (x<=hi),()),()):=by
 apply zDM;simp only [zuN,qC];by_cases h:x>=lo
 ·rw [qb h];simp [h]
 ·rw [qc h];simp;omega
theorem zBX (a:List Int) (lo up:Int) (ha:a.length<=17592186044416): ∀k i:Nat,i+k=a.length->zju M lo up a a.length i=some (if (a.drop i).all (fun x=>decide (lo<=x)&&decide (x<=up))=true then .inl () else .inr ((false,()),())):=by
 intro k
 induction k with
 | zero=>
  intro i hi;obtain rfl:i=a.length:=by omega
  apply zua
  simp [zlE]
 | succ k ih=>
  intro i hi;apply zua;have h1:i<a.length:=by omega
  simp only [zlE];rw [qb (by simpa using h1),zd h1,zb (by omega)];simp only [qa,zfq,ih (i+1) (by omega)];rw [qj h1,qT];generalize (decide (lo<=a[i])&&decide (a[i]<=up))=b;cases b<;>rfl
theorem zEk (a:List Int) (lo hi:Int) (ha:a.length<=17592186044416):zik M a lo hi=some ((a.all (fun x=>decide (lo<=x)&&decide (x<=hi)),()),()):=by
 apply zDp;simp only [zt3];have:=zBX a lo hi ha a.length 0 (by omega);rw [show ((0:Nat):Int)=0 from rfl] at this;rw [this,qk];cases a.all (fun x=>decide (lo<=x)&&decide (x<=hi))<;>simp
def gS (a:List Int):Bool:=decide (1<=a.length)&&(decide (a.length<=10)&&(a.all (fun x=>decide (0<=x)&&decide (x<=3))&&decide (a[0]?=some 0)))
theorem zqs (s:TSign) (ha:s.1.length<=17592186044416):zjy M s=some ((gS s.1,()),()):=by
 apply zzp;simp only [zpK,zfq,zEk s.1 0 3 ha,qa,gS];rcases hs:s.1 with _ | ⟨x,r⟩
 ·simp
 ·rw [zCv];simp only [qD,List.getElem?_cons_zero,qa];by_cases h:r.length+1<=10
  ·rw [qb (by simp;omega)];cases (x::r).all (fun x=>decide (0<=x)&&decide (x<=3))<;>simp [h];rw [Bool.eq_iff_iff];simp
  ·rw [qc (by simp;omega)];simp [h]
theorem zIn (x:Int):zkC M x=some ((!(decide (0<=x)&&decide (x<=3)),()),()):=by
 apply zyj;simp only [znH,qC];by_cases h:x<0
 ·rw [qb h];simp;omega
 ·rw [qc h];have h0:0<=x:=by omega
  rw [qp h0,Bool.true_and];by_cases h3:x<=3
  ·rw [qp h3,qr (by omega)];rfl
  ·rw [qr h3,qp (by omega)];rfl
theorem zCT (a:List Int) (ha:a.length<=17592186044416): ∀k i:Nat,i+k=a.length-> ∃r,zan M a () a.length i=some r∧(match r with | .inl _=>(a.drop i).all (fun x=>decide (0<=x)&&decide (x<=3))=true | .inr r=>0<=r.1.1∧(a.drop i).all (fun x=>decide (0<=x)&&decide (x<=3))=false):=by
 intro k
 induction k with
 | zero=>
  intro i hi;obtain rfl:i=a.length:=by omega
  refine ⟨.inl (),zbI _ _ _ _ (by simp [zam]),by simp⟩
 | succ k ih=>
  intro i hi;have h1:i<a.length:=by omega
  obtain ⟨r,hr,hm⟩:=ih (i+1) (by omega);rw [qj h1,qT];by_cases hp:(decide (0<=a[i])&&decide (a[i]<=3))=true
  ·refine ⟨r,zbI _ _ _ _ ?_,by rw [hp,Bool.true_and];exact hm⟩;simp only [zam];rw [qb (by simpa using h1),zd h1,zb (by omega)];simp only [qa,zIn,hp,qn,qg,qe];exact hr
  ·rw [Bool.not_eq_true] at hp;refine ⟨.inr (((i:Int),()),()),zbI _ _ _ _ ?_,Int.natCast_nonneg i,by rw [hp,Bool.false_and]⟩;simp only [zam];rw [qb (by simpa using h1),zd h1];simp only [qa,zIn,hp,qU,qf]
theorem zDi (a:List Int) (ha:a.length<=17592186044416):zaW M a ()=some ((!(a.all (fun x=>decide (0<=x)&&decide (x<=3))),()),()):=by
 apply zjb;simp only [zbO];obtain ⟨r,hr,hm⟩:=zCT a ha a.length 0 (by omega);rw [show ((0:Nat):Int)=0 from rfl] at hr;rw [qk] at hm
 cases r with
 | inl r=>
  rw [zet a () (r:=((-1,()),())) (by simp only [zbd,hr,qa,qd])];simp only at hm
  simp [hm]
 | inr r=>
  rw [zet a () (r:=r) (by simp only [zbd,hr,qa,qF])];simp only at hm;simp [hm]
theorem zpM (s:TSign) (ha:s.1.length<=17592186044416):zg8 M s=some ((gS s.1,()),()):=by
 apply zzl;simp only [zqr,zDi s.1 ha,qa,gS,qC];rcases hs:s.1 with _ | ⟨x,r⟩
 ·simp
 ·rw [zCv];simp only [qD,List.getElem?_cons_zero,qa];rw [qc (by omega)];by_cases h:r.length+1<=10
  ·rw [qc (by omega)];by_cases hx:x=0
   ·subst hx;simp [h]
   ·rw [qb (by simpa using hx)];simp [hx]
  ·rw [qb (by omega)];simp [h]
theorem za (x:TSign):(x.1,())=x:=rfl
theorem zg (x:TLit):(x.1,x.2.1,x.2.2.1,())=x:=rfl
theorem zap (x:TSign):(x.1,())=x:=rfl
def ar (a:List Int) (n:Int):Int:=if n<0 then 0 else (a[n.toNat]?).getD 0
def badN (a:List Int) (n:Int):Prop:=n< -12∨(a.length:Int)<=n
instance (a:List Int) (n:Int):Decidable (badN a n):=inferInstanceAs (Decidable (_∨_))
def sE (a:List Int):Int->List Int->Option (List Int)
 | k,[]=>if k<=0 then some [] else none
 | k,n::t=>if k<=0 then some (n::t) else if badN a n then none else sE a (k-1+ar a n) t
theorem zrq {a:List Int} (hg:gS a=true) (n:Int):0<=ar a n∧ar a n<=3:=by
 unfold ar;split
 ·omega
 ·cases h:a[n.toNat]? with
  | none=>simp
  | some x=>
   simp only [gS,qq,List.all_eq_true,qC] at hg;have:=hg.2.2.1 x (List.mem_of_getElem? h);simpa using this
theorem zFF {a:List Int} {n:Int} (h: ¬badN a n) (h0: ¬n<0):idx a n=some (ar a n):=by
 unfold badN at h;have h1:n.toNat<a.length:=by omega
 unfold ar idx;rw [qb (by omega),qc h0,qv h1];rfl
theorem zvF (a:List Int) (t:List Int):sE a 0 t=some t:=by cases t<;>simp [sE]
theorem zxr {a:List Int} (hg:gS a=true): ∀(u:List Int) (j k:Int) (x:List Int),0<=j->0<=k->sE a j u=some []->sE a (j+k) (u++x)=sE a k x:=by
 intro u
 induction u with
 | nil=>
  intro j k x hj hk h;simp only [sE] at h;split at h
  ·obtain rfl:j=0:=by omega
   simp
  ·cases h
 | cons n u ih=>
  intro j k x hj hk h;simp only [sE] at h;split at h
  ·cases h
  ·rename_i hj';split at h
   ·cases h
   ·rename_i hb;have hn:=zrq hg n;rw [qY]
    conv=>lhs;unfold sE
    rw [qc (by omega),qc hb];have:=ih (j-1+ar a n) k x (by omega) hk h;rw [<-this];congr 1;omega
theorem zy4 {a:List Int} (hg:gS a=true): ∀(t:List Int) (j k:Int) (r:List Int),0<=j->0<=k->sE a (j+k) t=some r-> ∃u x,t=u++x∧sE a j u=some []∧sE a k x=some r:=by
 intro t
 induction t with
 | nil=>
  intro j k r hj hk h;simp only [sE] at h;split at h
  ·obtain rfl:j=0:=by omega
   obtain rfl:k=0:=by omega
   exact ⟨[],[],rfl,by simp [sE],by simpa [sE] using h⟩
  ·cases h
 | cons n t ih=>
  intro j k r hj hk h;by_cases h0:j=0
  ·subst h0;exact ⟨[],n::t,rfl,by simp [sE],by simpa using h⟩
  ·simp only [sE] at h;split at h
   ·omega
   ·split at h
    ·cases h
    ·rename_i hb;have hn:=zrq hg n;obtain ⟨u,x,rfl,h1,h2⟩:=ih (j-1+ar a n) k r (by omega) hk (by rw [<-h];congr 1;omega);refine ⟨n::u,x,rfl,?_,h2⟩;unfold sE;rw [qc (by omega),qc hb];exact h1
abbrev Tm (a:List Int) (u:List Int):Prop:=sE a 1 u=some []
theorem zIG {a:List Int} (hg:gS a=true): ∀(k:Nat) (t r:List Int),sE a k t=some r-> ∃us:List (List Int),us.length=k∧t=us.flatten++r∧ ∀u∈us,Tm a u:=by
 intro k
 induction k with
 | zero=>
  intro t r h;rw [show ((0:Nat):Int)=0 from rfl,zvF] at h;obtain rfl:=qh h
  exact ⟨[],rfl,rfl,by simp⟩
 | succ k ih=>
  intro t r h;obtain ⟨u,x,rfl,h1,h2⟩:=zy4 hg t 1 k r (by omega) (by omega) (by rw [<-h];congr 1;omega);obtain ⟨us,hl,rfl,hu⟩:=ih x r h2;exact ⟨u::us,by simp [hl],by simp,by simpa using ⟨h1,hu⟩⟩
theorem Tm.parts {a:List Int} (hg:gS a=true) {u:List Int} (h:Tm a u): ∃(n:Int) (us:List (List Int)),u=n::us.flatten∧ ¬badN a n∧(us.length:Int)=ar a n∧ ∀v∈us,Tm a v:=by
 cases u with
 | nil=>simp [Tm,sE] at h
 | cons n t=>
  simp only [Tm,sE] at h;rw [qc (by omega)] at h;split at h
  ·cases h
  ·rename_i hb;have hn:=zrq hg n;obtain ⟨us,hl,ht,hu⟩:=zIG hg (ar a n).toNat t [] (by rw [<-h];congr 1;omega);exact ⟨n,us,by rw [ht];simp,hb,by omega,hu⟩
theorem Tm.rest {a:List Int} (hg:gS a=true) {u:List Int} (h:Tm a u) (x:List Int):sE a 1 (u++x)=some x:=by
 have:=zxr hg u 1 0 x (by omega) (by omega) h;rw [zvF] at this;simpa using this
theorem Tm.pos {a u:List Int} (h:Tm a u):0<u.length:=by
 cases u with
 | nil=>simp [Tm,sE] at h
 | cons n t=>simp
theorem zCI (s:TSign) (hg:gS s.1=true) (t:List Int) (ht:t.length<=1048576): ∀(k i:Nat) (need:Int),i+k=t.length->0<=need->need+3*k<=4000000->
  zgV M t i s need=some (match sE s.1 need (t.drop i) with | none=> .inr (((-1:Int),()),()) | some r=> .inl ((t.length:Int)-r.length,())):=by
 have hs:s.1.length<=10:=by simp only [gS,qq,qC] at hg;exact hg.2.1
 intro k
 induction k with
 | zero=>
  intro i need hi h0 hn;obtain rfl:i=t.length:=by omega
  apply zdt;simp only [zb2,qG,sE,qC];by_cases h:need>0
  ·rw [qb h,qb (by omega),qc (by omega)]
  ·rw [qc h,qb (by omega)];simp
 | succ k ih=>
  intro i need hi h0 hn;apply zdt;have h1:i<t.length:=by omega
  rw [qj h1];simp only [zb2,sE,qC];by_cases h:need>0
  ·rw [qb h,qc (by omega),qc (by omega),zd h1];simp only [qa,zfq];rw [w64 (x:=(s.1.length:Int)-1) (by omega) (by omega)];by_cases hb:badN s.1 t[i]
   ·rw [qb hb,qb (by unfold badN at hb;simp;omega)]
   ·rw [qc hb,qc (by unfold badN at hb;simp;omega)];have ha:=zrq hg t[i];have hw:IntKind.i64.wrap (need-1)=need-1:=w64 (by omega) (by omega);by_cases hx:t[i]>=0
    ·rw [qb hx,zFF hb (by omega),hw];simp only [qa,qd];rw [w64 (x:=need-1+_) (by omega) (by omega),zb (by omega)];exact ih (i+1) _ (by omega) (by omega) (by omega)
    ·have:ar s.1 t[i]=0:=by unfold ar;rw [qb (by omega)]
     rw [qc hx,hw,this];simp only [qa,qd];rw [zb (by omega),Int.add_zero];exact ih (i+1) _ (by omega) (by omega) (by omega)
  ·rw [qc h,qb (by omega)];simp only [qD,List.length_drop];congr 3;omega
theorem zAN (s:TSign) (hg:gS s.1=true) (t:List Int) (i:Nat) (hi:i<=t.length) (ht:t.length<=1048576):
  ziE M s t i=some ((match sE s.1 1 (t.drop i) with | none=>(-1:Int) | some r=>(t.length:Int)-r.length,()),()):=by
 apply zt2;simp only [zm3];rw [zCI s hg t ht (t.length-i) i 1 (by omega) (by omega) (by omega)];cases sE s.1 1 (t.drop i)<;>rfl
theorem zJT {a:List Int}: ∀(t:List Int) (k:Int) (r:List Int),sE a k t=some r->r.length<=t.length:=by
 intro t
 induction t with
 | nil=>intro k r h;simp only [sE] at h;split at h<;>simp_all
 | cons n t ih=>
  intro k r h;simp only [sE] at h;split at h
  ·obtain rfl:=qh h;simp
  ·split at h
   ·cases h
   ·have:=ih _ _ h;simp;omega
def isT (a t:List Int):Bool:=decide (t.length<=40)&&decide (Tm a t)
theorem zuj (s:TSign) (hg:gS s.1=true) (t:List Int) (ht:t.length<=1048576):zen M s t=some ((isT s.1 t,()),()):=by
 apply zsh;have:=zAN s hg t 0 (by omega) ht;rw [show ((0:Nat):Int)=0 from rfl,qk] at this;simp only [zlU,zfq,qa,this,isT];by_cases h0:t= []
 ·subst h0;simp [Tm,sE]
 ·have:0<t.length:=qZ.2 h0;by_cases h:t.length<=40
  ·rw [qb (by simp;omega)];simp only [qH,qS,and_true];rw [Bool.eq_iff_iff];simp only [qq,qC,Tm,beq_iff_eq]
   cases hE:sE s.1 1 t with
   | none=>simp
   | some r=>
    have:=zJT _ _ _ hE;simp only [qH];constructor
    ·intro h';exact ⟨h,List.eq_nil_of_length_eq_zero (by omega)⟩
    ·rintro ⟨-,rfl⟩;simp
  ·rw [qc (by simp;omega)];simp [h]
theorem zDe (s:TSign) (n:Int) (h: ¬badN s.1 n):zeu M s n=some ((ar s.1 n,()),()):=by
 apply zzf;simp only [zoP,qC];by_cases hn:n<0
 ·rw [qb hn];simp [ar,hn]
 ·rw [qc hn,zFF h hn];rfl
theorem zBq (s:TSign) (hg:gS s.1=true) (t:List Int) (ht:t.length<=40): ∀(k i:Nat) (left:Int),i+k=t.length->0<=left->left+3*k<=4000000->
  ∃r,zb1 M s left t t.length i=some r∧Sum.elim (fun y=>y.1==0) (fun r=>r.1.1) r=decide (sE s.1 left (t.drop i)=some []):=by
 intro k
 induction k with
 | zero=>
  intro i left hi h0 hn;obtain rfl:i=t.length:=by omega
  refine ⟨.inl (left,()),znF _ _ _ _ _ ?_,?_⟩
  ·simp [zfQ]
  ·rw [qG];simp only [qd,sE]
   rw [Bool.eq_iff_iff];simp;omega
 | succ k ih=>
  intro i left hi h0 hn;have h1:i<t.length:=by omega
  rw [qj h1]
  have pre: ∀r,(if (left==0)=true then some (.inr ((false,()),())) else if decide (t[i]< -12)=true then some (.inr ((false,()),())) else if decide (t[i]>=(s.1.length:Int))=true then some (.inr ((false,()),())) else (zeu M (s.1,()) t[i]).bind fun r2=>zb1 M (s.1,()) (IntKind.i64.wrap (left+IntKind.i64.wrap (r2.1.1-1))) t t.length (IntKind.i64.wrap ((i:Int)+1)))=some r->zb1 M s left t t.length i=some r:=by
   intro r hr;apply znF;simp only [zfQ];rw [qb (by simpa using h1),zd h1];exact hr
  by_cases hl:left=0
  ·subst hl;refine ⟨.inr ((false,()),()),pre _ rfl,(qr (by rw [zvF];exact fun h=>by cases h)).symm⟩
  ·by_cases hb:badN s.1 t[i]
   ·refine ⟨.inr ((false,()),()),pre _ ?_,by simp [sE,hb];omega⟩;rw [qc (by simpa using hl)];unfold badN at hb;by_cases h2:t[i]< -12
    ·rw [qb (by simpa using h2)]
    ·rw [qc (by simpa using h2),qb (by simp;omega)]
   ·have ha:=zrq hg t[i];obtain ⟨r,hr,hm⟩:=ih (i+1) (left-1+ar s.1 t[i]) (by omega) (by omega) (by omega);refine ⟨r,pre _ ?_,?_⟩
    ·have hb':=hb;unfold badN at hb';rw [qc (by simpa using hl),qc (by simp;omega),qc (by simp;omega),zDe (s.1,()) _ hb];simp only [qa];rw [w64 (x:=ar s.1 t[i]-1) (by omega) (by omega),w64 (by omega) (by omega),zb (by omega),show left+(ar s.1 t[i]-1)=left-1+ar s.1 t[i] by omega];exact hr
    ·rw [hm]
     conv=>rhs;unfold sE
     rw [qc (by omega),qc hb]
theorem zyG (s:TSign) (hg:gS s.1=true) (t:List Int):zeR M s t=some ((isT s.1 t,()),()):=by
 apply zxp;simp only [znf,qC,isT];by_cases h:t.length<=40
 ·obtain ⟨r,hr,hm⟩:=zBq s hg t h t.length 0 1 (by omega) (by omega) (by omega);rw [show ((0:Nat):Int)=0 from rfl] at hr;rw [qk] at hm;rw [qc (by omega),show ((s.1,()):TSign)=s from rfl,hr]
  cases r with
  | inl r=>simp only [qd,qa] at hm ⊢; rw [hm];simp [h,Tm]
  | inr r=>obtain ⟨⟨b,_⟩,_⟩:=r;simp only [qF,qa] at hm ⊢; rw [hm];simp [h,Tm]
 ·rw [qb (by omega)];simp [h]
def rp (σ:Int->List Int) (n:Int):List Int:=if n<0∧0<(σ (-1-n)).length then σ (-1-n) else [n]
def apS (σ:Int->List Int) (T:List Int):List Int:=T.flatMap (rp σ)
theorem zJF {σ:Int->List Int} (h: ∀v,(σ v).length<=60) (n:Int):(rp σ n).length<=60:=by
 unfold rp;split
 ·exact h _
 ·simp
theorem zji {σ:Int->List Int} (h: ∀v,(σ v).length<=60): ∀T:List Int,(apS σ T).length<=60*T.length
 | []=>by simp [apS]
 | n::T=>by
  have h1:=zJF h n;have h2:=zji h T;simp only [apS,List.flatMap_cons,qK,qD] at h2 ⊢;omega
theorem zdO (σ:Int->List Int) (n:Int) (t:List Int):apS σ (n::t)=rp σ n++apS σ t:=by simp only [apS,List.flatMap_cons]
theorem zjS (σ:Int->List Int) (t u:List Int):apS σ (t++u)=apS σ t++apS σ u:=by simp only [apS,List.flatMap_append]
theorem zod {σ:Int->List Int} {n:Int} (h:0<=n):rp σ n= [n]:=by unfold rp;rw [qc (fun q=>by omega)]
theorem zo7 {σ:Int->List Int} {n:Int} (h:σ (-1-n)= []):rp σ n= [n]:=by unfold rp;rw [qc (fun q=>by rw [h] at q;simp at q)]
theorem zjY {σ:Int->List Int} {n:Int} (hn:n<0) (h:σ (-1-n)≠ []):rp σ n=σ (-1-n):=by unfold rp;rw [qb ⟨hn,qZ.2 h⟩]
theorem zJt {a:List Int} (hg:gS a=true) {σ:Int->List Int} (hσ: ∀v,σ v≠ []->Tm a (σ v)): ∀(t:List Int) (k:Int),sE a k t=some []->sE a k (apS σ t)=some []:=by
 intro t
 induction t with
 | nil=>intro k h;exact h
 | cons n r ih=>
  intro k h;rw [zdO];by_cases hk:k<=0
  ·simp only [sE,qb hk] at h;cases h
  ·simp only [sE,qc hk] at h;by_cases hb:badN a n
   ·rw [qb hb] at h;cases h
   ·rw [qc hb] at h;by_cases hs:n<0∧σ (-1-n)≠ []
    ·rw [zjY hs.1 hs.2];have h1:ar a n=0:=by unfold ar;rw [qb hs.1]
     rw [h1] at h;have hT:sE a 1 (σ (-1-n))=some []:=hσ _ hs.2;have:=zxr hg (σ (-1-n)) 1 (k-1) (apS σ r) (by omega) (by omega) hT;rw [show 1+(k-1)=k by omega] at this;rw [this];exact ih _ (by rw [show k-1=k-1+0 by omega];exact h)
    ·have hr:rp σ n= [n]:=by
      by_cases hn:n<0
      ·exact zo7 (by
        by_cases e:σ (-1-n)= []
        ·exact e
        ·exact absurd ⟨hn,e⟩ hs)
      ·exact zod (by omega)
     rw [hr,List.singleton_append];simp only [sE,qc hk,qc hb];exact ih _ h
theorem zjV {a:List Int} (hg:gS a=true) {σ:Int->List Int} (hσ: ∀v,σ v≠ []->Tm a (σ v)) {t:List Int} (h:Tm a t):Tm a (apS σ t):=zJt hg hσ t 1 h
theorem zxe {a:List Int} (hg:gS a=true) {x z:List Int} (h:Tm a x) (k:Tm a (x++z)):z= []:=by
 have:=zxr hg x 1 0 z (by omega) (by omega) h;rw [show (1:Int)+0=1 from rfl,zvF] at this;have k':sE a 1 (x++z)=some []:=k;rw [k'] at this;exact (qh this).symm
def lcp:List Int->List Int->Nat
 | n::x,m::y=>if n=m then lcp x y+1 else 0
 | _,_=>0
theorem zzA: ∀(x y:List Int),lcp x y<=x.length∧lcp x y<=y.length
 | [],_=>by simp [lcp]
 | _::_,[]=>by simp [lcp]
 | n::x,m::y=>by
  have:=zzA x y;simp only [lcp,qD];split<;>omega
theorem zCA: ∀(x y:List Int),x.take (lcp x y)=y.take (lcp x y)
 | [],y=>by simp [lcp]
 | _::_,[]=>by simp [lcp]
 | n::x,m::y=>by
  simp only [lcp];split
  ·rename_i h;rw [h,List.take_succ_cons,List.take_succ_cons,zCA x y]
  ·simp
theorem zzU: ∀(x y:List Int) (h1:lcp x y<x.length) (h2:lcp x y<y.length),x[lcp x y]≠y[lcp x y]
 | [],_,h,_=>by simp at h
 | _::_,[],_,h=>by simp at h
 | n::x,m::y,h1,h2=>by
  by_cases e:n=m
  ·have e1:lcp (n::x) (m::y)=lcp x y+1:=by simp only [lcp,qb e]
   simp only [e1] at h1 h2 ⊢;simpa using zzU x y (by simpa using h1) (by simpa using h2)
  ·have e1:lcp (n::x) (m::y)=0:=by simp only [lcp,qc e]
   simp only [e1];simpa using e
theorem zAm: ∀(x y:List Int) (i:Nat),i<lcp x y->x[i]?=y[i]?
 | [],_,_,h=>by simp [lcp] at h
 | _::_,[],_,h=>by simp [lcp] at h
 | n::x,m::y,i,h=>by
  simp only [lcp] at h;split at h
  ·rename_i e
   cases i with
   | zero=>simp [e]
   | succ i=>simpa using zAm x y i (by omega)
  ·omega
theorem zEe {a:List Int} (hg:gS a=true) {x y:List Int} (hx:Tm a x) (hy:Tm a y) (h:lcp x y=x.length∨lcp x y=y.length):x=y:=by
 have ht:=zCA x y;rcases h with h | h
 ·rw [h,List.take_length] at ht
  have e:y=x++y.drop x.length:=by
   conv=>lhs;rw [<-qX x.length y]
   rw [<-ht]
  have:=zxe hg hx (by rw [<-e];exact hy);rw [e,this,qO]
 ·rw [h,List.take_length] at ht
  have e:x=y++x.drop y.length:=by
   conv=>lhs;rw [<-qX y.length x]
   rw [ht]
  have:=zxe hg hy (by rw [<-e];exact hx);rw [e,this,qO]
def SubF (sub:List (List Int)) (σ:Int->List Int):Prop:=sub.length=12∧ ∀v,0<=v->v<=11->sub[v.toNat]?=some (σ v)
theorem SubF.idx {sub:List (List Int)} {σ:Int->List Int} (h:SubF sub σ) {v:Int} (v0:0<=v) (v1:v<=11):idx sub v=some (σ v):=by
 have:=h.2 v v0 v1;obtain ⟨q1,q2⟩:=qW.1 this;have e:=zd (xs:=sub) q1;rw [show ((v.toNat:Nat):Int)=v by omega,q2] at e;exact e
theorem zEg {σ:Int->List Int} (h: ∀v,(σ v).length<=100000) (n:Int):(rp σ n).length<=100000:=by
 unfold rp;split
 ·exact h _
 ·simp
theorem zBB (sub:List (List Int)) (σ:Int->List Int) (hσ:SubF sub σ) (hb: ∀v,(σ v).length<=100000) (T:List Int) (hT:T.length<=100) (hv: ∀n∈T,-12<=n):
  ∀k i:Nat,i+k=T.length-> ∀o:List Int,o.length<=100000*i->zfJ M sub o T T.length i=some (.inl (o++apS σ (T.drop i),())):=by
 intro k
 induction k with
 | zero=>
  intro i hi o ho;obtain rfl:i=T.length:=by omega
  apply zry;simp only [zjX];rw [qc (by simp)]
  simp [apS]
 | succ k ih=>
  intro i hi o ho;have h1:i<T.length:=by omega
  have h2:=hv _ (qi h1);have h3:=zEg hb T[i];have h4:=hb (-1-T[i]);have hs:apS σ (T.drop i)=rp σ T[i]++apS σ (T.drop (i+1)):=by rw [qj h1];simp only [apS,List.flatMap_cons]
  have go: ∀x:List Int,rp σ T[i]=x->zfJ M sub (o++x) T T.length ((i+1:Nat):Int)=some (.inl (o++apS σ (T.drop i),())):=by
   intro x hx;subst hx;rw [ih (i+1) (by omega) _ (by simp;omega),hs,qE]
  apply zry;simp only [zjX];rw [qb (by simpa using h1),zd h1];simp only [qa];by_cases hn:T[i]<0
  ·rw [qb (by simpa using hn),w64 (x:= -1-T[i]) (by omega) (by omega),hσ.idx (by omega) (by omega)];simp only [qa];by_cases hl:0<(σ (-1-T[i])).length
   ·rw [qb (by simp;omega),qb (by omega)];simp only [qa,qd];rw [zb (by omega)];exact go _ (by unfold rp;rw [qb ⟨hn,hl⟩])
   ·rw [qc (by simp only [qC];omega),qb (by simp;omega)];simp only [qa,qd];rw [zb (by omega)];exact go _ (by unfold rp;rw [qc (fun q=>hl q.2)])
  ·rw [qc (by simpa using hn),qb (by simp;omega)];simp only [qa,qd];rw [zb (by omega)];exact go _ (by unfold rp;rw [qc (fun q=>hn q.1)])
theorem zfm (sub:List (List Int)) (σ:Int->List Int) (hσ:SubF sub σ) (hb: ∀v,(σ v).length<=100000) (T:List Int) (hT:T.length<=100) (hv: ∀n∈T,-12<=n):zA M sub T=some ((apS σ T,()),()):=by
 apply zAB;have:=zBB sub σ hσ hb T hT hv T.length 0 (by omega) [] (by simp);rw [show ((0:Nat):Int)=0 from rfl,qk,qB] at this;simp only [zqZ,this,qa,qd]
def oneS (n:Int) (t:List Int):Int->List Int:=fun u=>if u= -1-n then t else []
def bindS (σ:Int->List Int) (n:Int) (t:List Int):Int->List Int:=fun u=>if u= -1-n then t else if σ u≠ [] then apS (oneS n t) (σ u) else []
def Free (σ:Int->List Int) (x:List Int):Prop:= ∀m∈x,m<0->σ (-1-m)= []
theorem zKr (σ:Int->List Int) (n:Int):rp σ n≠ []:=by
 unfold rp;split
 ·rename_i h;exact qZ.1 h.2
 ·simp
theorem zB9 (σ:Int->List Int) {t:List Int} (h:t≠ []):apS σ t≠ []:=by
 cases t with
 | nil=>exact absurd rfl h
 | cons n r=>
  rw [zdO];have:=zKr σ n
  cases hr:rp σ n with
  | nil=>exact absurd hr this
  | cons _ _=>simp
theorem zyR {σ:Int->List Int}: ∀ {x:List Int},Free σ x->apS σ x=x
 | [],_=>rfl
 | n::x,h=>by
  rw [zdO,zyR (fun m hm=>h m (qm _ hm))]
  have:rp σ n= [n]:=by
   by_cases hn:n<0
   ·exact zo7 (h n (qu ..) hn)
   ·exact zod (by omega)
  rw [this];rfl
theorem zCq (n k:Int) (t:List Int) (hn:n<0) (ht:t≠ []):rp (oneS n t) k=if k=n then t else [k]:=by
 by_cases h:k=n
 ·subst h;rw [qb rfl,zjY hn (by unfold oneS;rw [qb rfl];exact ht)];unfold oneS;rw [qb rfl]
 ·rw [qc h];exact zo7 (by unfold oneS;rw [qc (by omega)])
theorem zEm {n m:Int} {t:List Int} (hn:n<0) (ht:t≠ []): ∀ {x:List Int},m∈apS (oneS n t) x->(m∈x∧m≠n)∨m∈t
 | [],h=>by cases h
 | k::x,h=>by
  rw [zdO,zCq n k t hn ht,qt] at h;rcases h with h | h
  ·split at h
   ·exact .inr h
   ·rename_i hk;rw [qM.1 h];exact .inl ⟨qu ..,hk⟩
  ·rcases zEm hn ht h with ⟨h1,h2⟩ | h1
   ·exact .inl ⟨qm _ h1,h2⟩
   ·exact .inr h1
section
variable {σ : Int -> List Int} {n : Int} {t : List Int} (hn : n < 0) (ht : t ≠ []) (hb : σ (-1 - n) = [])
include hn ht hb
theorem zy9: ∀x:List Int,apS (bindS σ n t) x=apS (oneS n t) (apS σ x)
 | []=>rfl
 | k::x=>by
  rw [zdO,zdO,zjS,zy9 x];congr 1;by_cases hk:k<0
  ·by_cases e:k=n
   ·subst e;rw [zo7 hb,zjY hk (by unfold bindS;rw [qb rfl];exact ht)];show bindS σ k t (-1-k)=apS (oneS k t) [k];rw [zdO,zCq k k t hn ht,qb rfl];unfold bindS;rw [qb rfl];simp [apS]
   ·by_cases hs:σ (-1-k)= []
    ·rw [zo7 hs,zo7 (by unfold bindS;rw [qc (by omega),qc (by simpa using hs)]),zdO,zCq n k t hn ht,qc e];rfl
    ·have hbs:bindS σ n t (-1-k)=apS (oneS n t) (σ (-1-k)):=by unfold bindS;rw [qc (by omega),qb hs]
     rw [zjY hk hs,zjY hk (by rw [hbs];exact zB9 _ hs),hbs]
  ·rw [zod (by omega),zod (by omega),zdO,zod (by omega)];rfl
omit hb in
theorem Free.bind {x:List Int} (hx:Free σ x) (hf:Free σ t) (hnt:n∉t):Free (bindS σ n t) (apS (oneS n t) x):=by
 intro m hm h0;rcases zEm hn ht hm with ⟨h1,h2⟩ | h1
 ·unfold bindS;rw [qc (by omega),qc (by simpa using hx m h1 h0)]
 ·have h2:m≠n:=fun e=>hnt (e▸h1)
  unfold bindS;rw [qc (by omega),qc (by simpa using hf m h1 h0)]
omit hb in
theorem zFP (hi: ∀u,Free σ (σ u)) (hf:Free σ t) (hnt:n∉t): ∀u,Free (bindS σ n t) (bindS σ n t u):=by
 intro u
 have htt:apS (oneS n t) t=t:=zyR (fun m hm h0=>by
  unfold oneS;rw [qc (fun e=>hnt (by rw [show n=m by omega];exact hm))])
 have key:=Free.bind hn ht hf hf hnt;rw [htt] at key;by_cases e:u= -1-n
 ·have:bindS σ n t u=t:=by unfold bindS;rw [qb e]
  rw [this];exact key
 ·by_cases hs:σ u= []
  ·have:bindS σ n t u= []:=by unfold bindS;rw [qc e,qc (by simpa using hs)]
   rw [this];intro m hm;cases hm
  ·have:bindS σ n t u=apS (oneS n t) (σ u):=by unfold bindS;rw [qc e,qb hs]
   rw [this];exact Free.bind hn ht (hi u) hf hnt
end
theorem zJb {a:List Int} {n:Int} {t:List Int} (h:Tm a t): ∀v,oneS n t v≠ []->Tm a (oneS n t v):=by
 intro v hv;unfold oneS at hv ⊢;split
 ·exact h
 ·rename_i e;rw [qc e] at hv;exact absurd rfl hv
theorem zHP {a:List Int} (hg:gS a=true) {σ:Int->List Int} {n:Int} {t:List Int} (hσ: ∀v,σ v≠ []->Tm a (σ v)) (h:Tm a t): ∀v,bindS σ n t v≠ []->Tm a (bindS σ n t v):=by
 intro v hv;unfold bindS at hv ⊢;split
 ·exact h
 ·rename_i e;rw [qc e] at hv;split
  ·rename_i hs;exact zjV hg (zJb h) (hσ v hs)
  ·rename_i hs;rw [qc hs] at hv;exact absurd rfl hv
def nbound (σ:Int->List Int):Nat:=((List.range 12).filter fun u:Nat=> !(σ (u:Int)).isEmpty).length
theorem zA4 (σ:Int->List Int):nbound σ<=12:=by
 unfold nbound;exact Nat.le_trans (List.length_filter_le _ _) (by simp)
theorem zDH {σ:Int->List Int} {n:Int} {t:List Int} (hn:n<0) (h12: -12<=n) (ht:t≠ []) (hb:σ (-1-n)= []):nbound σ<nbound (bindS σ n t):=by
 unfold nbound
 have hmono: ∀u:Nat,(!(σ (u:Int)).isEmpty)=true->(!(bindS σ n t (u:Int)).isEmpty)=true:=by
  intro u hu;simp only [Bool.not_eq_true',List.isEmpty_eq_false_iff] at hu ⊢;unfold bindS;split
  ·exact ht
  ·first
   | exact zB9 _ hu
   | (rw [qb hu];exact zB9 _ hu)
 have gen: ∀(l:List Nat) (w:Nat),w∈l->(σ (w:Int))= []->bindS σ n t (w:Int)≠ []->(l.filter fun u:Nat=> !(σ (u:Int)).isEmpty).length<(l.filter fun u:Nat=> !(bindS σ n t (u:Int)).isEmpty).length:=by
  intro l
  induction l with
  | nil=>intro w hw;cases hw
  | cons u r ih=>
   intro w hw h1 h2
   have hle: ∀l:List Nat,(l.filter fun u:Nat=> !(σ (u:Int)).isEmpty).length<=(l.filter fun u:Nat=> !(bindS σ n t (u:Int)).isEmpty).length:=by
    intro l
    induction l with
    | nil=>simp
    | cons v q ihq=>
     simp only [List.filter_cons];by_cases hv:(!(σ (v:Int)).isEmpty)=true
     ·rw [qb hv,qb (hmono v hv)];simp;exact ihq
     ·rw [qc hv];split
      ·simp;omega
      ·exact ihq
   simp only [List.filter_cons];rcases qA.1 hw with rfl | hw
   ·rw [qc (by simp [h1]),qb (by simpa using h2)];have:=hle r;simp;omega
   ·have hr:=ih w hw h1 h2;by_cases hv:(!(σ (u:Int)).isEmpty)=true
    ·rw [qb hv,qb (hmono u hv)];simp;exact hr
    ·rw [qc hv];split
     ·simp;omega
     ·exact hr
 refine gen _ (-1-n).toNat (by simp;omega) ?_ ?_
 ·rw [show (((-1-n).toNat:Nat):Int)= -1-n by omega];exact hb
 ·rw [show (((-1-n).toNat:Nat):Int)= -1-n by omega];unfold bindS;rw [qb rfl];exact ht
theorem zCl (a:List Int) (x:Int) (ha:a.length<=17592186044416): ∀k i:Nat,i+k=a.length-> ∃r,zcZ M a x a.length i=some r∧(match r with | .inl _=>x∉a.drop i | .inr r=>0<=r.1.1∧x∈a.drop i):=by
 intro k
 induction k with
 | zero=>
  intro i hi;obtain rfl:i=a.length:=by omega
  exact ⟨.inl (),zhn _ _ _ _ (by simp [zcF]),by simp⟩
 | succ k ih=>
  intro i hi;have h1:i<a.length:=by omega
  obtain ⟨r,hr,hm⟩:=ih (i+1) (by omega);rw [qj h1];by_cases hx:x=a[i]
  ·refine ⟨.inr (((i:Int),()),()),zhn _ _ _ _ ?_,Int.natCast_nonneg i,hx▸qu⟩;simp only [zcF];rw [qb (by simpa using h1),zd h1];simp only [qa];rw [qb (by simpa using hx)]
  ·refine ⟨r,zhn _ _ _ _ ?_,?_⟩
   ·simp only [zcF];rw [qb (by simpa using h1),zd h1];simp only [qa];rw [qc (by simpa using hx),zb (by omega)];exact hr
   ·cases r with
    | inl r=>simp only [qA,not_or];exact ⟨hx,hm⟩
    | inr r=>exact ⟨hm.1,qm _ hm.2⟩
theorem zti (a:List Int) (x:Int) (ha:a.length<=17592186044416):zbr M a x=some ((decide (x∈a),()),()):=by
 obtain ⟨r,hr,hm⟩:=zCl a x ha a.length 0 (by omega);rw [show ((0:Nat):Int)=0 from rfl] at hr;rw [qk] at hm;apply ztf
 cases r with
 | inl r=>
  rw [ze3,zoi a x (r:=((-1,()),())) (by simp only [zgB,hr,qa,qd])];have:decide (x∈a)=false:=by simpa using hm
  rw [this];rfl
 | inr r=>
  rw [ze3,zoi a x (r:=r) (by simp only [zgB,hr,qa,qF])];have:decide (x∈a)=true:=by simpa using hm.2
  rw [this];simp [hm.1]
def Up (l:List Int):Prop:=l.Pairwise (· < ·)
theorem Up.ext {l k:List Int} (hl:Up l) (hk:Up k) (h: ∀x,x∈l↔x∈k):l=k:=by
 induction l generalizing k with
 | nil=>
  cases k with
  | nil=>rfl
  | cons y k=>exact absurd ((h y).2 (by simp)) (by simp)
 | cons x l ih=>
  cases k with
  | nil=>exact absurd ((h x).1 (by simp)) (by simp)
  | cons y k=>
   have hl':=List.pairwise_cons.1 hl;have hk':=List.pairwise_cons.1 hk
   have hxy:x=y:=by
    have a1:=(h x).1 (by simp);have a2:=(h y).2 (by simp);rcases qA.1 a1 with a1 | a1
    ·exact a1
    ·rcases qA.1 a2 with a2 | a2
     ·exact a2.symm
     ·have:=hl'.1 _ a2;have:=hk'.1 _ a1;omega
   subst hxy;rw [ih hl'.2 hk'.2 fun z=>?_];constructor
   ·intro hz;rcases qA.1 ((h z).1 (by simp [hz])) with e | e
    ·have:=hl'.1 _ hz;omega
    ·exact e
   ·intro hz;rcases qA.1 ((h z).2 (by simp [hz])) with e | e
    ·have:=hk'.1 _ hz;omega
    ·exact e
def upTo (p:Int->Bool):List Int:=((List.range 12).map Int.ofNat).filter p
theorem zAW (p:Int->Bool):Up (upTo p):=by
 unfold Up upTo;exact List.Pairwise.filter _ (by decide)
theorem ziD {p:Int->Bool} {v:Int}:v∈upTo p↔0<=v∧v<=11∧p v=true:=by
 simp only [upTo,List.mem_filter,qP,List.mem_range];constructor
 ·rintro ⟨⟨n,h,rfl⟩,hp⟩
  exact ⟨Int.natCast_nonneg n,by simp only [Int.ofNat_eq_natCast];omega,hp⟩
 ·rintro ⟨h1,h2,hp⟩
  exact ⟨⟨v.toNat,by omega,by simp only [Int.ofNat_eq_natCast];omega⟩,hp⟩
theorem zvT (p:Int->Bool):(upTo p).length<=12:=by
 unfold upTo;exact Nat.le_trans (List.length_filter_le _ _) (by simp)
theorem zFx (p:Int->Bool) (i:Nat) (hi:i<=12): ∀o,o=(((List.range i).map Int.ofNat).filter p)->(i<12->((((List.range (i+1)).map Int.ofNat).filter p)=if p i=true then o++ [(i:Int)] else o)):=by
 intro o ho _;subst ho;rw [List.range_succ,List.map_append,List.filter_append];simp only [qJ,List.map_nil,Int.ofNat_eq_natCast];cases h:p i<;>simp [h]
def putN:List Int->Int->List Int
 | [],n=> [n]
 | x::r,n=>if x<n then x::putN r n else if x=n then x::r else n::x::r
theorem zCM {l:List Int} {n x:Int}:x∈putN l n↔x∈l∨x=n:=by
 induction l with
 | nil=>simp [putN]
 | cons y r ih=>
  simp only [putN];split
  ·simp only [qA,ih,or_assoc]
  ·split
   ·rename_i h;subst h;simp only [qA];constructor
    ·intro h;exact .inl h
    ·rintro (h | rfl)
     ·exact h
     ·exact .inl rfl
   ·simp only [qA];constructor
    ·rintro (h | h)
     ·exact .inr h
     ·exact .inl h
    ·rintro (h | h)
     ·exact .inr h
     ·exact .inl h
theorem zIy {l:List Int} (h:Up l) (n:Int):Up (putN l n):=by
 induction l with
 | nil=>simp [putN,Up]
 | cons y r ih=>
  have h':=List.pairwise_cons.1 h;simp only [putN];split
  ·refine List.pairwise_cons.2 ⟨fun z hz=>?_,ih h'.2⟩;rcases zCM.1 hz with hz | rfl
   ·exact h'.1 _ hz
   ·assumption
  ·split
   ·exact h
   ·refine List.pairwise_cons.2 ⟨fun z hz=>?_,h⟩;rcases qA.1 hz with rfl | hz
    ·omega
    ·have:=h'.1 _ hz;omega
theorem zyT (l:List Int) (n:Int):(putN l n).length<=l.length+1:=by
 induction l with
 | nil=>simp [putN]
 | cons y r ih=>
  simp only [putN];split
  ·simp only [qD];omega
  ·split<;>simp
theorem zzy (n:Int): ∀(P R:List Int),(∀x∈P,x<n)->(∀y,R.head?=some y->n<=y)->putN (P++R) n=if R.head?=some n then P++R else P++n::R
 | [],[],_,_=>by simp [putN]
 | [],y::R,_,h=>by
  have:=h y rfl;simp only [qB,putN,List.head?_cons,qH]
  rw [qc (by omega)]
 | x::P,R,h,h'=>by
  have ih:=zzy n P R (fun y hy=>h y (by simp [hy])) h';simp only [qY,putN];rw [qb (h x (by simp)),ih];split<;>rfl
theorem zEV (l:List Int) (hl:l.length<=100000) (n:Int): ∀k i:Nat,i+k=l.length->(∀x∈l.take i,x<n)-> ∃j:Nat,j<=l.length∧zjH M l n i=some (.inl (l,n,j,()))∧(∀x∈l.take j,x<n)∧(∀y,(l.drop j).head?=some y->n<=y):=by
 intro k
 induction k with
 | zero=>
  intro i hi h;obtain rfl:i=l.length:=by omega
  exact ⟨l.length,ql _,zoK _ _ _ (by simp [ziC]),h,by simp⟩
 | succ k ih=>
  intro i hi h;have h1:i<l.length:=by omega
  by_cases hx:l[i]<n
  ·obtain ⟨j,g2,g3,g4⟩:=ih (i+1) (by omega) (by
    intro x hx';rw [List.take_succ_eq_append_getElem h1,qt] at hx';rcases hx' with hx' | hx'
    ·exact h x hx'
    ·simp at hx';omega)
   refine ⟨j,g2,zoK _ _ _ ?_,g4⟩;simp only [ziC];rw [qb (by simpa using h1),qb (by omega),qo,qv h1];simp only [qa];rw [qb (by simpa using hx),zb (by omega)];exact g3
  ·refine ⟨i,by omega,zoK _ _ _ ?_,h,?_⟩
   ·simp only [ziC];rw [qb (by simpa using h1),qb (by omega),qo,qv h1];simp only [qa];rw [qc (by simpa using hx)]
   ·intro y hy;rw [qj h1] at hy;simp only [List.head?_cons,qH] at hy;omega
theorem zGo (l:List Int) (hl:l.length<=100000) (n:Int):zmT M l n=some ((putN l n,()),()):=by
 obtain ⟨j,g2,g3,g4,g5⟩:=zEV l hl n l.length 0 (by omega) (by simp);rw [show ((0:Nat):Int)=0 from rfl] at g3;have key:=zzy n (l.take j) (l.drop j) g4 g5;rw [qX] at key;apply zCE;simp only [ztE,g3,qa,qd];by_cases h1:j<l.length
 ·have hh:(l.drop j).head?=some l[j]:=by rw [qj h1];rfl
  rw [qb (by simpa using h1),qb (by omega),qo,qv h1];simp only [qa,qo,Int.toNat_zero,qk,qB,qR,qK,List.length_take,List.length_drop,qD,List.take_length];rw [hh] at key;by_cases h2:l[j]=n
  ·rw [qb (by simpa using h2),key,qb (by rw [h2])]
  ·rw [qc (by simpa using h2),qb (by omega),qb (by omega),qb (by omega),qb (by omega),qb (by omega),key,qc (by simpa using h2)];simp
 ·have hd:l.drop j= []:=List.drop_of_length_le (by omega);rw [hd] at key;rw [qc (by simpa using h1)];simp only [qa,qo,Int.toNat_zero,qk,qB,qR,qK,List.length_take,List.length_drop,qD,List.take_length];rw [qb (by omega),qb (by omega),qb (by omega),qb (by omega),qb (by omega),key,hd];simp
theorem Up.le12 {L:List Int} (h:Up L) (hb: ∀v∈L,0<=v∧v<=11):L=upTo (fun v=>decide (v∈L)):=by
 refine Up.ext h (zAW _) fun x=>?_
 rw [ziD];constructor
 ·intro hx;exact ⟨(hb x hx).1,(hb x hx).2,by simpa using hx⟩
 ·rintro ⟨_,_,hx⟩;simpa using hx
theorem Up.len12 {L:List Int} (h:Up L) (hb: ∀v∈L,0<=v∧v<=11):L.length<=12:=by
 rw [h.le12 hb];exact zvT _
theorem znY: ∀(vs o:List Int),(vs.foldl putN o).length<=o.length+vs.length
 | [],o=>by simp
 | v::vs,o=>by
  have h1:=znY vs (putN o v);have h2:=zyT o v;simp only [List.foldl_cons,qD];omega
theorem zl7: ∀(vs o:List Int) (x:Int),x∈vs.foldl putN o↔x∈o∨x∈vs
 | [],o,x=>by simp
 | v::vs,o,x=>by
  simp only [List.foldl_cons,zl7 vs,zCM,qA,or_assoc]
theorem zz1: ∀(vs o:List Int),Up o->Up (vs.foldl putN o)
 | [],o,h=>h
 | v::vs,o,h=>zz1 vs _ (zIy h v)
theorem ziu (x:List Int) (h:x.length<=1048576):zaD M x=some ((x,()),()):=by
 apply zxJ;simp only [zpW];rw [qb (by simp;omega)];simp
theorem zDX (v:Int) (a:List Int) (ha:a.length<=1000): ∀k i:Nat,i+k=a.length->zhg M v a a.length i=some (if v∈a.drop i then .inr ((true,()),()) else .inl ()):=by
 intro k
 induction k with
 | zero=>
  intro i hi;obtain rfl:i=a.length:=by omega
  exact zlA _ _ _ _ (by simp [zgj])
 | succ k ih=>
  intro i hi;have h1:i<a.length:=by omega
  rw [qj h1];apply zlA;simp only [zgj];rw [qb (by simpa using h1),zd h1,zb (by omega)];simp only [qa];by_cases h:a[i]=v
  ·rw [qb (by simpa using h),qb (by rw [h];exact qu ..)]
  ·rw [qc (by simpa using h),ih (i+1) (by omega)];by_cases h2:v∈a.drop (i+1)
   ·rw [qb h2,qb (qm _ h2)]
   ·rw [qc h2,qc (fun h3=>by rcases qA.1 h3 with e | e;exact h e.symm;exact h2 e)]
theorem zDl (a:List Int) (v:Int) (ha:a.length<=1000):zfz M a v=some ((decide (v∈a),()),()):=by
 apply zxs;have:=zDX v a ha a.length 0 (by omega);rw [show ((0:Nat):Int)=0 from rfl,qk] at this;simp only [zpU,this,qa];by_cases h:v∈a
 ·rw [qb h,qp h];rfl
 ·rw [qc h,qr h];rfl
theorem zKa {a:List Int} (hg:gS a=true): ∀(t:List Int) (k:Int) (i:Nat),0<=k->sE a k t=some []->i<t.length-> ∃u x,t.drop i=u++x∧Tm a u:=by
 intro t
 induction t with
 | nil=>intro k i _ _ h;simp at h
 | cons n t ih=>
  intro k i hk h hi;have h0:=h;simp only [sE] at h;split at h
  ·cases h
  ·rename_i hk';split at h
   ·cases h
   ·rename_i hb;have hn:=zrq hg n
    cases i with
    | zero=>
     obtain ⟨u,x,e,h1,_⟩:=zy4 hg (n::t) 1 (k-1) [] (by omega) (by omega) (by rw [<-h0];congr 1;omega)
     exact ⟨u,x,by simpa using e,h1⟩
    | succ i=>simpa using ih _ i (by omega) h (by simpa using hi)
theorem Tm.at {a:List Int} (hg:gS a=true) {t:List Int} (h:Tm a t) {i:Nat} (hi:i<t.length): ∃u x,t.drop i=u++x∧Tm a u:=zKa hg t 1 i (by omega) h hi
theorem zqU {t u x:List Int} {i:Nat} (h:t.drop i=u++x) (hu:0<u.length):i+u.length+x.length=t.length∧(t.take (i+u.length)).drop i=u:=by
 have hl:=congrArg List.length h;simp only [List.length_drop,qK] at hl;refine ⟨by omega,?_⟩;rw [List.drop_take,h,Nat.add_sub_cancel_left,List.take_left]
theorem zrR (s:TSign) (hg:gS s.1=true) (t:List Int) (ht:t.length<=1048576) {i:Nat} {u x:List Int} (h:t.drop i=u++x) (hu:Tm s.1 u):zcc M s t i=some ((u,()),()):=by
 obtain ⟨c1,c2⟩:=zqU h (Tm.pos hu);have hp:=Tm.pos hu;have he:=zAN s hg t i (by omega) ht;rw [h,Tm.rest hg hu x] at he;apply zBx;simp only [zsB,za,he,qa];rw [qb (by omega),qo,show ((t.length:Int)-x.length).toNat=i+u.length by omega,c2,ziu u (by omega)];rfl
theorem zxc (s:TSign) (hg:gS s.1=true) (t:List Int) (ht:t.length<=1048576): ∀(u x:List Int) (i:Nat) (k:Int),t.drop i=u++x->i<=t.length->0<=k->k+3*u.length<=4000000->sE s.1 k u=some []->zgT M t i s k=some (.inl (((i+u.length:Nat):Int),())):=by
 intro u
 induction u with
 | nil=>
  intro x i k h hi h0 hb hk;simp only [sE] at hk;split at hk
  ·apply zqI;simp only [zi0];rw [qc (by simp;omega)];simp
  ·cases hk
 | cons n u ih=>
  intro x i k h hi h0 hb hk
  have h1:i<t.length:=by
   have hl:=congrArg List.length h;simp at hl;omega
  have hd:=h;rw [qj h1,qY] at hd;obtain ⟨hn,hd⟩:=List.cons.inj hd;simp only [sE] at hk;split at hk
  ·cases hk
  ·rename_i hk';split at hk
   ·cases hk
   ·rename_i hbad;have ha:=zrq hg n;simp only [qD] at hb;have:=ih x (i+1) (k-1+ar s.1 n) hd (by omega) (by omega) (by omega) hk;apply zqI;simp only [zi0];rw [qb (by simp;omega),zd h1,hn];simp only [qa,za,zDe s n hbad];rw [zb (by omega),w64 (x:=ar s.1 n-1) (by omega) (by omega),w64 (by omega) (by omega),show k+(ar s.1 n-1)=k-1+ar s.1 n by omega,this];simp;omega
theorem zx2 (s:TSign) (hg:gS s.1=true) (t:List Int) (ht:t.length<=1000000) {i:Nat} {u x:List Int} (h:t.drop i=u++x) (hu:Tm s.1 u):za1 M s t i=some ((u,()),()):=by
 obtain ⟨c1,c2⟩:=zqU h (Tm.pos hu);have hp:=Tm.pos hu;have he:=zxc s hg t (by omega) u x i 1 h (by omega) (by omega) (by omega) hu
 have he':zdV M s t i=some ((((i+u.length:Nat):Int),()),()):=by
  apply zpH;simp only [zjN,za,he,qa,qd]
 apply zzi;simp only [zoT,za,he',qa];rw [qb (by omega),qo,qo,c2,qb (by omega)]
theorem zBR (sub:List (List Int)) (σ:Int->List Int) (hσ:SubF sub σ) (hb: ∀v,(σ v).length<=100000) (T:List Int) (hT:T.length<=100) (hv: ∀n∈T,-12<=n):
  ∀k i:Nat,i+k=T.length-> ∀o:List Int,o.length<=40->zgX M sub o T T.length i=some (if (o++apS σ (T.drop i)).length<=40 then .inl (o++apS σ (T.drop i),()) else .inr (([],false,()),())):=by
 intro k
 induction k with
 | zero=>
  intro i hi o ho;obtain rfl:i=T.length:=by omega
  apply zuo;simp only [zlr];rw [qc (by simp),qG]
  simp [apS,ho]
 | succ k ih=>
  intro i hi o ho;have h1:i<T.length:=by omega
  have h2:=hv _ (qi h1);have h3:=zEg hb T[i];have h4:=hb (-1-T[i]);have hs:apS σ (T.drop i)=rp σ T[i]++apS σ (T.drop (i+1)):=by rw [qj h1];simp only [apS,List.flatMap_cons]
  have go: ∀x:List Int,rp σ T[i]=x->(if decide (((o++x).length:Int)>(40:Int))=true then some (.inr (([],false,()),())) else zgX M sub (o++x) T T.length ((i+1:Nat):Int))=some (if (o++apS σ (T.drop i)).length<=40 then .inl (o++apS σ (T.drop i),()) else .inr (([],false,()),())):=by
   intro x hx;subst hx;rw [hs,<-qE];by_cases hl:(o++rp σ T[i]).length<=40
   ·rw [qc (by simp only [qC];omega),ih (i+1) (by omega) _ hl]
   ·rw [qb (by simp only [qC];omega),qc (by rw [qK];omega)]
  apply zuo;simp only [zlr];rw [qb (by simpa using h1),zd h1];simp only [qa];by_cases hn:T[i]<0
  ·rw [qb (by simpa using hn),w64 (x:= -1-T[i]) (by omega) (by omega),hσ.idx (by omega) (by omega)];simp only [qa];by_cases hl:0<(σ (-1-T[i])).length
   ·rw [qb (by simp;omega),qb (by omega)];simp only [qa,qd];rw [zb (by omega)];exact go _ (by unfold rp;rw [qb ⟨hn,hl⟩])
   ·rw [qc (by simp only [qC];omega),qb (by simp;omega)];simp only [qa,qd];rw [zb (by omega)];exact go _ (by unfold rp;rw [qc (fun q=>hl q.2)])
  ·rw [qc (by simpa using hn),qb (by simp;omega)];simp only [qa,qd];rw [zb (by omega)];exact go _ (by unfold rp;rw [qc (fun q=>hn q.1)])
theorem zq5 (sub:List (List Int)) (σ:Int->List Int) (hσ:SubF sub σ) (hb: ∀v,(σ v).length<=100000) (T:List Int) (hT:T.length<=100) (hv: ∀n∈T,-12<=n):zck M sub T=some (if (apS σ T).length<=40 then ((apS σ T,true,()),()) else (([],false,()),())):=by
 apply zCz;have:=zBR sub σ hσ hb T hT hv T.length 0 (by omega) [] (by simp);rw [show ((0:Nat):Int)=0 from rfl,qk,qB] at this;simp only [ztV,this,qa];split<;>rfl
theorem zKd (t:List Int) (v:Int) (ht:t.length<=17592186044416) (h0: -1000<=v) (h1:v<=1000):zmF M t v=some ((decide (-1-v∈t),()),()):=by
 apply zzM;simp only [zpL];rw [w64 (x:= -1-v) (by omega) (by omega),zti t _ ht];rfl
def inV (ts:List (List Int)) (v:Int):Bool:=ts.any fun t=>decide (-1-v∈t)
theorem zCs (ts:List (List Int)) (v:Int) (h0: -1000<=v) (h1:v<=1000) (hl:ts.length<=17592186044416) (hx: ∀t∈ts,t.length<=17592186044416): ∀k i:Nat,i+k=ts.length-> ∃r,zal M ts (v,()) ts.length i=some r∧(match r with | .inl _=>inV (ts.drop i) v=false | .inr r=>0<=r.1.1∧inV (ts.drop i) v=true):=by
 intro k
 induction k with
 | zero=>
  intro i hi;obtain rfl:i=ts.length:=by omega
  exact ⟨.inl (),zbC _ _ _ _ (by simp [zae]),by simp [inV]⟩
 | succ k ih=>
  intro i hi;have h2:i<ts.length:=by omega
  obtain ⟨r,hr,hm⟩:=ih (i+1) (by omega);rw [qj h2];have hc:=zKd ts[i] v (hx _ (qi h2)) h0 h1
  cases hp:decide (-1-v∈ts[i]) with
  | false=>
   refine ⟨r,zbC _ _ _ _ ?_,?_⟩
   ·simp only [zae];rw [qb (by simpa using h2),zd h2];simp only [qa,hc,hp,qg,qe];rw [zb (by omega)];exact hr
   ·cases r with
    | inl r=>simp only [inV,List.any_cons,hp,Bool.false_or];exact hm
    | inr r=>simp only [inV,List.any_cons,hp,Bool.false_or];exact hm
  | true=>
   refine ⟨.inr (((i:Int),()),()),zbC _ _ _ _ ?_,Int.natCast_nonneg i,?_⟩
   ·simp only [zae];rw [qb (by simpa using h2),zd h2];simp only [qa,hc,hp,qf]
   ·simp only [inV,List.any_cons,hp,Bool.true_or]
theorem zC6 (ts:List (List Int)) (v:Int) (h0: -1000<=v) (h1:v<=1000) (hl:ts.length<=17592186044416) (hx: ∀t∈ts,t.length<=17592186044416):zaS M ts (v,())=some ((inV ts v,()),()):=by
 obtain ⟨r,hr,hm⟩:=zCs ts v h0 h1 hl hx ts.length 0 (by omega);rw [show ((0:Nat):Int)=0 from rfl] at hr;rw [qk] at hm;apply zi8
 cases r with
 | inl r=>
  rw [zaT,zec ts (v,()) (r:=((-1,()),())) (by simp only [za7,hr,qa,qd])];simp only at hm
  simp [hm]
 | inr r=>
  rw [zaT,zec ts (v,()) (r:=r) (by simp only [za7,hr,qa,qF])];simp only at hm;simp [hm]
theorem zBp (ts:List (List Int)) (hl:ts.length<=17592186044416) (hx: ∀t∈ts,t.length<=17592186044416): ∀k i:Nat,i+k=12-> ∀o:List Int,o=((List.range i).map Int.ofNat).filter (inV ts)->ziJ M ts o i=some (.inl (upTo (inV ts),())):=by
 intro k
 induction k with
 | zero=>
  intro i hi o ho;obtain rfl:i=12:=by omega
  subst ho
  exact zs7 _ _ _ (by simp [zkg,upTo])
 | succ k ih=>
  intro i hi o ho;have hp:=zFx (inV ts) i (by omega) o ho (by omega);have hol:o.length<=12:=by rw [ho];exact Nat.le_trans (List.length_filter_le _ _) (by simp;omega)
  apply zs7;simp only [zkg];rw [qb (by simp;omega),zC6 ts i (by omega) (by omega) hl hx];simp only [qa]
  cases hv:inV ts (i:Int) with
  | true=>
   rw [hv,qb rfl] at hp;rw [qb rfl,qb (by simp;omega)];simp only [qa,qd];rw [zb (by omega)]
   exact ih (i+1) (by omega) _ hp.symm
  | false=>
   rw [hv,qc (by simp)] at hp;rw [qc (by simp)];simp only [qa,qd];rw [zb (by omega)];exact ih (i+1) (by omega) _ hp.symm
theorem zCc (ts:List (List Int)) (hl:ts.length<=17592186044416) (hx: ∀t∈ts,t.length<=17592186044416):zhp M ts=some ((upTo (inV ts),()),()):=by
 apply zBv;simp only [zsr];have:=zBp ts hl hx 12 0 (by omega) [] (by simp);rw [show ((0:Nat):Int)=0 from rfl] at this;rw [this];rfl
theorem zJ3 {a:List Int}: ∀(t:List Int) (k:Int),sE a k t=some []-> ∀n∈t,-12<=n∧n<a.length:=by
 intro t
 induction t with
 | nil=>intro k _ n hn;cases hn
 | cons m t ih=>
  intro k h n hn;simp only [sE] at h;split at h
  ·cases h
  ·split at h
   ·cases h
   ·rename_i hb;unfold badN at hb;rcases qA.1 hn with rfl | hn
    ·omega
    ·exact ih _ h n hn
theorem zo4 {a t:List Int} (h:isT a t=true):t.length<=40∧ ∀n∈t,-12<=n∧n<a.length:=by
 simp only [isT,qq,qC] at h;exact ⟨h.1,zJ3 t 1 h.2⟩
def litOK (a:List Int) (x:TLit):Bool:=isT a x.2.1&&isT a x.2.2.1
def clOK (a:List Int) (c:List TLit):Bool:=decide (c.length<=8)&&c.all (litOK a)
theorem zIR (s:TSign) (hg:gS s.1=true) (x:TLit) (h:smL x):zm0 M s x=some ((litOK s.1 x,()),()):=by
 apply zxd;simp only [zpY,za,zuj s hg x.2.1 h.1,zuj s hg x.2.2.1 h.2,qa,litOK];cases isT s.1 x.2.1<;>simp
theorem zIS (s:TSign) (hg:gS s.1=true) (x:TLit):zke M s x=some ((litOK s.1 x,()),()):=by
 apply zya;simp only [znP,za,zyG s hg x.2.1,zyG s hg x.2.2.1,qa,litOK];cases isT s.1 x.2.1<;>simp
theorem zzB (s:TSign) (hg:gS s.1=true) (a:List TLit) (ha:a.length<=1048576) (hx: ∀x∈a,smL x): ∀k i:Nat,i+k=a.length->zco M a s a a.length i=some (if (a.drop i).all (litOK s.1)=true then .inl (a,()) else .inr ((false,()),())):=by
 intro k
 induction k with
 | zero=>
  intro i hi;obtain rfl:i=a.length:=by omega
  apply zd3
  simp [zcV]
 | succ k ih=>
  intro i hi;apply zd3;have h1:i<a.length:=by omega
  simp only [zcV];rw [qb (by simpa using h1),zd h1,zb (by omega)];simp only [qa,za,zg,zIR s hg a[i] (hx _ (qi h1)),ih (i+1) (by omega)];rw [qj h1,qT];generalize litOK s.1 a[i]=b;cases b<;>rfl
theorem zjG (s:TSign) (hg:gS s.1=true) (a:List TLit) (ha:a.length<=1048576) (hx: ∀x∈a,smL x):zbA M s a=some ((clOK s.1 a,()),()):=by
 apply zql;simp only [zjO,za];have:=zzB s hg a ha hx a.length 0 (by omega);rw [show ((0:Nat):Int)=0 from rfl] at this;rw [this,qk,clOK];cases a.all (litOK s.1)
 ·simp
 ·simp;omega
theorem zyC (s:TSign) (hg:gS s.1=true) (x:TLit):zgA M x s=some ((!litOK s.1 x,()),()):=by
 apply zuR;simp only [zj6,za,zg,zIS s hg x,qa]
theorem zCJ (s:TSign) (hg:gS s.1=true) (a:List TLit) (ha:a.length<=1048576): ∀k i:Nat,i+k=a.length-> ∃r,zz M a (s,()) a.length i=some r∧(match r with | .inl _=>(a.drop i).all (litOK s.1)=true | .inr r=>0<=r.1.1∧(a.drop i).all (litOK s.1)=false):=by
 intro k
 induction k with
 | zero=>
  intro i hi;obtain rfl:i=a.length:=by omega
  refine ⟨.inl (),zaH _ _ _ _ (by simp [zu]),by simp⟩
 | succ k ih=>
  intro i hi;have h1:i<a.length:=by omega
  obtain ⟨r,hr,hm⟩:=ih (i+1) (by omega);rw [qj h1,qT];by_cases hp:litOK s.1 a[i]=true
  ·refine ⟨r,zaH _ _ _ _ ?_,by rw [hp,Bool.true_and];exact hm⟩;simp only [zu];rw [qb (by simpa using h1),zd h1,zb (by omega)];simp only [qa,zg,zyC s hg,hp,qn,qg,qe];exact hr
  ·rw [Bool.not_eq_true] at hp;refine ⟨.inr (((i:Int),()),()),zaH _ _ _ _ ?_,Int.natCast_nonneg i,by rw [hp,Bool.false_and]⟩;simp only [zu];rw [qb (by simpa using h1),zd h1];simp only [qa,zg,zyC s hg,hp,qU,qf]
theorem zCL (s:TSign) (hg:gS s.1=true) (a:List TLit) (ha:a.length<=1048576):zZ M a (s,())=some ((!(a.all (litOK s.1)),()),()):=by
 apply ze9;simp only [zaL];obtain ⟨r,hr,hm⟩:=zCJ s hg a ha a.length 0 (by omega);rw [show ((0:Nat):Int)=0 from rfl] at hr;rw [qk] at hm
 cases r with
 | inl r=>
  rw [zb6 a (s,()) (r:=((-1,()),())) (by simp only [zad,hr,qa,qd])];simp only at hm
  simp [hm]
 | inr r=>
  rw [zb6 a (s,()) (r:=r) (by simp only [zad,hr,qa,qF])];simp only at hm;simp [hm]
theorem zvX (s:TSign) (hg:gS s.1=true) (a:List TLit) (ha:a.length<=1048576):zdD M s a=some ((clOK s.1 a,()),()):=by
 apply zwm;simp only [zlq,za,zCL s hg a ha,qa,clOK];by_cases h:a.length<=8
 ·rw [qb (by simp;omega)];simp [h]
 ·rw [qc (by simp;omega)];simp [h]
def tms (c:List TLit):List (List Int):=c.flatMap fun x=> [x.2.1,x.2.2.1]
theorem zkE (c:List TLit):(tms c).length=2*c.length:=by
 induction c with
 | nil=>rfl
 | cons x r ih=>
  have:tms (x::r)= [x.2.1,x.2.2.1]++tms r:=rfl;rw [this,qK,ih];simp;omega
theorem zdb {c:List TLit} {t:List Int}:t∈tms c↔ ∃x∈c,t=x.2.1∨t=x.2.2.1:=by
 simp [tms]
theorem zz3 (c:List TLit) (hc:c.length<=1048576): ∀k i:Nat,i+k=c.length-> ∀o:List (List Int),o.length<=2*i->zhG M o c c.length i=some (.inl (o++tms (c.drop i),())):=by
 intro k
 induction k with
 | zero=>
  intro i hi o ho;obtain rfl:i=c.length:=by omega
  exact zrF _ _ _ _ (by simp [zjn,tms])
 | succ k ih=>
  intro i hi o ho;have h1:i<c.length:=by omega
  apply zrF;simp only [zjn];rw [qb (by simpa using h1),zd h1];simp only [qa];rw [qb (by simp;omega),zb (by omega),ih (i+1) (by omega) _ (by simp;omega),qj h1];have:tms (c[i]::c.drop (i+1))= [c[i].2.1,c[i].2.2.1]++tms (c.drop (i+1)):=rfl;rw [this,qE]
theorem zpn (c:List TLit) (hc:c.length<=1048576):zbS M c=some ((tms c,()),()):=by
 apply zAA;have:=zz3 c hc c.length 0 (by omega) [] (by simp);rw [show ((0:Nat):Int)=0 from rfl] at this;simp only [zqW,this,qa,qd,qB,qk]
def negs (t:List Int):List Int:=(t.filter fun n=>decide (n<0)).map fun n=> -1-n
theorem zHI {x:Int} (h:x<0) (r:List Int):negs (x::r)=(-1-x)::negs r:=by simp [negs,h]
theorem zHi {x:Int} (h: ¬x<0) (r:List Int):negs (x::r)=negs r:=by simp [negs,h]
theorem zwf (t:List Int):(negs t).length<=t.length:=by simp only [negs,qV];exact List.length_filter_le _ _
theorem zyF {t:List Int} {v:Int}:v∈negs t↔0<=v∧ -1-v∈t:=by
 simp only [negs,qP,List.mem_filter,qC];constructor
 ·rintro ⟨n,⟨h1,h2⟩,rfl⟩
  exact ⟨by omega,by rw [show -1-(-1-n)=n by omega];exact h1⟩
 ·rintro ⟨h1,h2⟩
  exact ⟨-1-v,⟨h2,by omega⟩,by omega⟩
theorem zz4 (t:List Int) (ht:t.length<=4000) (hw: ∀n∈t,-1000<=n): ∀k i:Nat,i+k=t.length-> ∀o:List Int,o.length<=i->ziq M o t t.length i=some (.inl ((negs (t.drop i)).foldl putN o,())):=by
 intro k
 induction k with
 | zero=>
  intro i hi o ho;obtain rfl:i=t.length:=by omega
  exact zsM _ _ _ _ (by simp [zkB,negs])
 | succ k ih=>
  intro i hi o ho;have h1:i<t.length:=by omega
  have hn:=hw _ (qi h1);apply zsM;simp only [zkB];rw [qb (by simpa using h1),zd h1,qj h1];simp only [qa];by_cases hx:t[i]<0
  ·have hl:=zyT o (-1-t[i]);rw [qb (by simpa using hx),w64 (x:= -1-t[i]) (by omega) (by omega),zGo o (by omega)];simp only [qa,qd];rw [zb (by omega),ih (i+1) (by omega) _ (by omega)];rw [zHI hx];rfl
  ·rw [qc (by simpa using hx)];simp only [qa,qd];rw [zb (by omega),ih (i+1) (by omega) _ (by omega)];rw [zHi hx]
theorem zuJ (t:List Int) (ht:t.length<=4000) (hw: ∀n∈t,-1000<=n):zhr M t=some (((negs t).foldl putN [],()),()):=by
 apply zBM;have:=zz4 t ht hw t.length 0 (by omega) [] (by simp);rw [show ((0:Nat):Int)=0 from rfl] at this;simp only [zsE,this,qa,qd,qk]
def lvs (x:TLit):List Int:=(negs x.2.1).foldl putN []++(negs x.2.2.1).foldl putN []
theorem zEa {x:TLit} {v:Int}:v∈lvs x↔0<=v∧(-1-v∈x.2.1∨ -1-v∈x.2.2.1):=by
 simp only [lvs,qt,zl7,List.not_mem_nil,false_or,zyF];constructor
 ·rintro (⟨h1,h2⟩ | ⟨h1,h2⟩)
  ·exact ⟨h1,.inl h2⟩
  ·exact ⟨h1,.inr h2⟩
 ·rintro ⟨h1,h2 | h2⟩
  ·exact .inl ⟨h1,h2⟩
  ·exact .inr ⟨h1,h2⟩
theorem zDs (c:List TLit) (n j:Int) (vs:List Int) (hl:vs.length<=500): ∀k i:Nat,i+k=vs.length-> ∀o:List Int,o.length<=400+i->zd2 M o c n j vs vs.length i=some (.inl ((vs.drop i).foldl putN o,c,n,j,())):=by
 intro k
 induction k with
 | zero=>
  intro i hi o ho;obtain rfl:i=vs.length:=by omega
  exact zp0 _ _ _ _ _ _ _ (by simp [zib])
 | succ k ih=>
  intro i hi o ho;have h1:i<vs.length:=by omega
  apply zp0;simp only [zib];rw [qb (by simpa using h1),qb (by omega),qo,qv h1];simp only [qa,zGo o (by omega)];have:=zyT o vs[i];rw [zb (by omega),ih (i+1) (by omega) _ (by omega),qj h1];rfl
def liV (x:TLit):Prop:=x.2.1.length<=40∧x.2.2.1.length<=40∧(∀n∈x.2.1,-12<=n)∧ ∀n∈x.2.2.1,-12<=n
theorem foldv (c:List TLit) (hc: ∀x∈c,liV x): ∀o:List Int,Up o->(∀v∈o,0<=v∧v<=11)->Up (c.foldl (fun o x=>(lvs x).foldl putN o) o)∧(∀v∈c.foldl (fun o x=>(lvs x).foldl putN o) o,0<=v∧v<=11)∧ ∀v,v∈c.foldl (fun o x=>(lvs x).foldl putN o) o↔v∈o∨ ∃x∈c,v∈lvs x:=by
 induction c with
 | nil=>intro o h1 h2;exact ⟨h1,h2,by simp⟩
 | cons x r ih=>
  intro o h1 h2;have hx:=hc x (by simp)
  have hb: ∀v∈(lvs x).foldl putN o,0<=v∧v<=11:=by
   intro v hv;rcases (zl7 _ _ _).1 hv with h | h
   ·exact h2 v h
   ·obtain ⟨a1,a2⟩:=zEa.1 h;rcases a2 with a2 | a2
    ·have:=hx.2.2.1 _ a2;omega
    ·have:=hx.2.2.2 _ a2;omega
  obtain ⟨g1,g2,g3⟩:=ih (fun y hy=>hc y (by simp [hy])) _ (zz1 (lvs x) o h1) hb;refine ⟨g1,g2,fun v=>?_⟩;rw [List.foldl_cons,g3 v,zl7];simp only [qA,exists_eq_or_imp,or_assoc]
theorem zBT (c:List TLit) (hl:c.length<=1000) (hc: ∀x∈c,liV x): ∀k i:Nat,i+k=c.length-> ∀o:List Int,Up o->(∀v∈o,0<=v∧v<=11)->zim M o c c.length i=some (.inl ((c.drop i).foldl (fun o x=>(lvs x).foldl putN o) o,())):=by
 intro k
 induction k with
 | zero=>
  intro i hi o ho hb;obtain rfl:i=c.length:=by omega
  exact zsN _ _ _ _ (by simp [zkj])
 | succ k ih=>
  intro i hi o ho hb;have h1:i<c.length:=by omega
  have hx:=hc _ (qi h1);have l1:=zwf c[i].2.1;have l2:=zwf c[i].2.2.1;have l3:=znY (negs c[i].2.1) [];have l4:=znY (negs c[i].2.2.1) [];have x1:=hx.1;have x2:=hx.2.1;simp only [qR] at l3 l4;have ol:=ho.len12 hb;have step:=foldv [c[i]] (by intro y hy;simp at hy;subst hy;exact hx) o ho hb;simp only [List.foldl_cons,List.foldl_nil] at step;apply zsN;simp only [zkj];rw [qb (by simpa using h1),zd h1];simp only [qa];rw [zuJ _ (by omega) (fun n hn=>by have:=hx.2.2.1 n hn;omega)];simp only [qa];rw [zuJ _ (by omega) (fun n hn=>by have:=hx.2.2.2 n hn;omega)];simp only [qa];rw [qb (by omega)];have hin:=zDs c c.length i (lvs c[i]) (by simp only [lvs,qK];omega) (lvs c[i]).length 0 (by omega) o (by omega);rw [show ((0:Nat):Int)=0 from rfl,qk] at hin;have hin':zd2 M o c c.length i ((negs c[i].2.1).foldl putN []++(negs c[i].2.2.1).foldl putN []) ((negs c[i].2.1).foldl putN []++(negs c[i].2.2.1).foldl putN []).length 0=some (.inl ((lvs c[i]).foldl putN o,c,c.length,i,())):=hin;rw [hin'];simp only [qa,qd];rw [zb (by omega),ih (i+1) (by omega) _ step.1 step.2.1,qj h1];rfl
theorem zHq (c:List TLit) (hl:c.length<=1000) (hc: ∀x∈c,liV x):zot M c=some ((upTo (inV (tms c)),()),()):=by
 apply zBH;have:=zBT c hl hc c.length 0 (by omega) [] List.Pairwise.nil (by simp);rw [show ((0:Nat):Int)=0 from rfl] at this;simp only [zsJ,this,qa,qd,qk];obtain ⟨g1,g2,g3⟩:=foldv c hc [] List.Pairwise.nil (by simp);congr 3;refine Up.ext g1 (zAW _) fun v=>?_
 rw [g3 v,ziD];simp only [List.not_mem_nil,false_or,zEa,inV,List.any_eq_true,qC];constructor
 ·rintro ⟨x,hx,h0,h⟩
  have hh:=hc x hx;refine ⟨h0,?_,?_⟩
  ·rcases h with h | h
   ·have:=hh.2.2.1 _ h;omega
   ·have:=hh.2.2.2 _ h;omega
  ·rcases h with h | h
   ·exact ⟨_,zdb.2 ⟨x,hx,.inl rfl⟩,h⟩
   ·exact ⟨_,zdb.2 ⟨x,hx,.inr rfl⟩,h⟩
 ·rintro ⟨h0,_,t,ht,h⟩
  obtain ⟨x,hx,h1⟩:=zdb.1 ht;rcases h1 with rfl | rfl
  ·exact ⟨x,hx,h0,.inl h⟩
  ·exact ⟨x,hx,h0,.inr h⟩
theorem zq7 {a:List Int} {c:List TLit} (h:clOK a c=true):c.length<=8∧ ∀x∈c,liV x:=by
 simp only [clOK,qq,qC] at h;refine ⟨h.1,fun x hx=>?_⟩;have:=(List.all_eq_true.1 h.2) x hx;simp only [litOK,qq] at this;obtain ⟨l1,l2⟩:=zo4 this.1;obtain ⟨r1,r2⟩:=zo4 this.2;exact ⟨l1,r1,fun n hn=>(l2 n hn).1,fun n hn=>(r2 n hn).1⟩
def shn (by' n:Int):Int:=if n<0 then n-by' else n
theorem zBZ (by':Int) (h0:0<=by') (h1:by'<=1000) (t:List Int) (hl:t.length<=1000000) (hx: ∀n∈t,-1000000<=n∧n<=1000000): ∀k i:Nat,i+k=t.length->zjq M by' ((t.take i).map (shn by')++t.drop i) t.length i=some (.inl (t.map (shn by'),())):=by
 intro k
 induction k with
 | zero=>
  intro i hi;obtain rfl:i=t.length:=by omega
  apply ztI
  simp [zlf]
 | succ k ih=>
  intro i hi;have h2:i<t.length:=by omega
  have hn:=hx _ (qi h2);have hlen:((t.take i).map (shn by')++t.drop i).length=t.length:=by simp;omega
  have hget:((t.take i).map (shn by')++t.drop i)[i]?=some t[i]:=by
   rw [List.getElem?_append_right (by simp;omega)];simp [Nat.min_eq_left (Nat.le_of_lt h2),h2]
  have hnext:(t.take (i+1)).map (shn by')++t.drop (i+1)=((t.take i).map (shn by')++t.drop i).set i (shn by' t[i]):=by
   rw [List.take_succ_eq_append_getElem h2,List.map_append,List.set_append_right _ _ (by simp;omega)];have e:i-((t.take i).map (shn by')).length=0:=by simp;omega
   rw [e,qj h2,List.set_cons_zero,qE];rfl
  have ih':=ih (i+1) (by omega);rw [hnext] at ih';apply ztI;simp only [zlf];rw [qb (by simpa using h2),qb (by rw [hlen];omega),qo,hget];simp only [qa];by_cases hneg:t[i]<0
  ·rw [qb (by simpa using hneg),qb (by rw [hlen];omega),w64 (x:=t[i]-by') (by omega) (by omega)];simp only [qa,qd];rw [zb (by omega)];have:shn by' t[i]=t[i]-by':=by simp [shn,hneg]
   rw [this] at ih';exact ih'
  ·rw [qc (by simpa using hneg)];simp only [qa,qd];rw [zb (by omega)];have:shn by' t[i]=t[i]:=by simp [shn,hneg]
   rw [this] at ih'
   have hset:((t.take i).map (shn by')++t.drop i).set i t[i]=(t.take i).map (shn by')++t.drop i:=by
    apply List.ext_getElem?;intro j;rw [List.getElem?_set];split
    ·rename_i e;subst e;rw [hget,qb (by rw [hlen];exact h2)]
    ·rfl
   rw [hset] at ih';exact ih'
theorem zIF (t:List Int) (by':Int) (h0:0<=by') (h1:by'<=1000) (hl:t.length<=1000000) (hx: ∀n∈t,-1000000<=n∧n<=1000000):zqo M t by'=some ((t.map (shn by'),()),()):=by
 apply zB1;simp only [zue];have:=zBZ by' h0 h1 t hl hx t.length 0 (by omega);rw [show ((0:Nat):Int)=0 from rfl] at this;simp only [List.take_zero,List.map_nil,qB,qk] at this;rw [qb (by omega),this];rfl
theorem zAs (by':Int) (h0:0<=by') (h1:by'<=1000) (t:List Int) (hl:t.length<=1000000) (hx: ∀n∈t,-1000000<=n∧n<=1000000): ∀k i:Nat,i+k=t.length->zhz M by' ((t.take i).map (shn by')++t.drop i) t.length i=some (.inl (t.map (shn by'),())):=by
 intro k
 induction k with
 | zero=>
  intro i hi;obtain rfl:i=t.length:=by omega
  apply zrw
  simp [zjw]
 | succ k ih=>
  intro i hi;have h2:i<t.length:=by omega
  have hn:=hx _ (qi h2);have hlen:((t.take i).map (shn by')++t.drop i).length=t.length:=by simp;omega
  have hget:((t.take i).map (shn by')++t.drop i)[i]?=some t[i]:=by
   rw [List.getElem?_append_right (by simp;omega)];simp [Nat.min_eq_left (Nat.le_of_lt h2),h2]
  have hnext:(t.take (i+1)).map (shn by')++t.drop (i+1)=((t.take i).map (shn by')++t.drop i).set i (shn by' t[i]):=by
   rw [List.take_succ_eq_append_getElem h2,List.map_append,List.set_append_right _ _ (by simp;omega)];have e:i-((t.take i).map (shn by')).length=0:=by simp;omega
   rw [e,qj h2,List.set_cons_zero,qE];rfl
  have ih':=ih (i+1) (by omega);rw [hnext] at ih';apply zrw;simp only [zjw];rw [qb (by simpa using h2),qb (by rw [hlen];omega),qo,hget];simp only [qa];by_cases hneg:t[i]<0
  ·rw [qb (by simpa using hneg),qb (by rw [hlen];omega),w64 (x:=t[i]-by') (by omega) (by omega)];simp only [qa,qd];rw [zb (by omega)];have:shn by' t[i]=t[i]-by':=by simp [shn,hneg]
   rw [this] at ih';exact ih'
  ·rw [qc (by simpa using hneg)];simp only [qa,qd];rw [zb (by omega)];have:shn by' t[i]=t[i]:=by simp [shn,hneg]
   rw [this] at ih'
   have hset:((t.take i).map (shn by')++t.drop i).set i t[i]=(t.take i).map (shn by')++t.drop i:=by
    apply List.ext_getElem?;intro j;rw [List.getElem?_set];split
    ·rename_i e;subst e;rw [hget,qb (by rw [hlen];exact h2)]
    ·rfl
   rw [hset] at ih';exact ih'
theorem zBc (t:List Int) (by':Int) (h0:0<=by') (h1:by'<=1000) (hl:t.length<=1000000) (hx: ∀n∈t,-1000000<=n∧n<=1000000):zk1 M t by'=some ((t.map (shn by'),()),()):=by
 apply zz5
 have ho:zaD M t=some ((t,()),()):=by
  apply zxJ;simp only [zpW,qR,qB];rw [qb (by omega)]
 simp only [zrb,ho,qa];have:=zAs by' h0 h1 t hl hx t.length 0 (by omega);rw [show ((0:Nat):Int)=0 from rfl] at this;simp only [List.take_zero,List.map_nil,qB,qk] at this;rw [this];rfl
def nmb (m:List (Int×Int)) (n:Int):List (Int×Int):=if mhas m n=true then m else mput m n (-1-(m.length:Int))
def rnm:List (Int×Int)->List Int->List Int×List (Int×Int)
 | m,[]=>([],m)
 | m,n::r=>if 0<=n then (n::(rnm m r).1,(rnm m r).2) else (mget (nmb m n) n 0::(rnm (nmb m n) r).1,(rnm (nmb m n) r).2)
def rnL:List (Int×Int)->List (List Int)->List (List Int)
 | _,[]=> []
 | m,t::r=>(rnm m t).1::rnL (rnm m t).2 r
theorem zHK {α:Type} (m:List (Int×α)) (k:Int) (y:α):(mput m k y).length<=m.length+1:=by
 induction m with
 | nil=>simp [mput]
 | cons p r ih=>
  obtain ⟨a,b⟩:=p;simp only [mput];split<;>simp only [qD]<;>omega
theorem zD3 (m:List (Int×Int)) (n:Int):(nmb m n).length<=m.length+1:=by
 unfold nmb;split
 ·omega
 ·exact zHK _ _ _
theorem zvp: ∀(t:List Int) (m:List (Int×Int)),(rnm m t).1.length=t.length∧(rnm m t).2.length<=m.length+t.length
 | [],m=>by simp [rnm]
 | n::r,m=>by
  simp only [rnm];split
  ·have:=zvp r m;simp only [qD];omega
  ·have h1:=zvp r (nmb m n);have h2:=zD3 m n;simp only [qD];omega
theorem zDT (outs:List (List Int)) (i:Nat) (hi:i<outs.length) (ho:outs.length<=1000000) (l:List (List Int)) (N I:Int) (t:List Int) (ht:t.length<=1000000): ∀(k j:Nat) (m:List (Int×Int)) (P:List Int),j+k=t.length->P.length=j->m.length+k<=2000000->
  zf8 M m (outs.set i (P++t.drop j)) i l N I t t.length j=some (.inl ((rnm m (t.drop j)).2,outs.set i (P++(rnm m (t.drop j)).1),l,N,I,())):=by
 intro k
 induction k with
 | zero=>
  intro j m P hj hP hm;obtain rfl:j=t.length:=by omega
  apply zqq
  simp [zh6,rnm]
 | succ k ih=>
  intro j m P hj hP hm;have h1:j<t.length:=by omega
  rw [qj h1];apply zqq;simp only [zh6];rw [qb (by simpa using h1),zd h1];simp only [qa];by_cases h0:0<=t[j]
  ·rw [qb (by simpa using h0)];simp only [qa,qd];have:=ih (j+1) m (P++ [t[j]]) (by omega) (by simp [hP]) (by omega);rw [qE,qE] at this;simp only [qY,qB] at this;rw [zb (by omega),this];simp only [rnm,qb h0]
  ·rw [qc (by simpa using h0)];have hl:=zD3 m t[j]
   have hmap:(if (!(mhas m t[j]))=true then (some (.inl ((mput m t[j] (IntKind.i64.wrap ((-1:Int)-(List.length m:Int)))),outs.set i (P++t[j]::t.drop (j+1)),(i:Int),(j:Int),t[j],l,N,I,t,(t.length:Int),(j:Int),()))) else (some (.inl (m,outs.set i (P++t[j]::t.drop (j+1)),(i:Int),(j:Int),t[j],l,N,I,t,(t.length:Int),(j:Int),())))
     :Option (((List (Int×Int))×(List (List Int))×Int×Int×Int×(List (List Int))×Int×Int×(List Int)×Int×Int×Unit)⊕(((List (Int×Int))×(List (List Int))×Int×(List (List Int))×Int×Int×(List Int)×Int×Int×Unit)⊕(((List (Int×Int))×(List (List Int))×(List (List Int))×Int×Int×Unit)⊕((((List (List Int))×Unit)×(Unit)))))))
     =some (.inl (nmb m t[j],outs.set i (P++t[j]::t.drop (j+1)),(i:Int),(j:Int),t[j],l,N,I,t,(t.length:Int),(j:Int),())):=by
    unfold nmb
    cases mhas m t[j] with
    | true=>rfl
    | false=>rw [w64 (by omega) (by omega)];rfl
   rw [hmap];simp only [qa,qd];have hset:(outs.set i (P++t[j]::t.drop (j+1)))[i]?=some (P++t[j]::t.drop (j+1)):=by simp [hi]
   have hel:(P++t[j]::t.drop (j+1))[j]?=some t[j]:=by
    rw [List.getElem?_append_right (by omega),hP,Nat.sub_self];rfl
   rw [qb (by rw [List.length_set];omega),qo,hset];simp only [qa];rw [qb (by simp;omega),qo,hel];simp only [qa,qd]
   rw [List.set_set,show (P++t[j]::t.drop (j+1)).set j (mget (nmb m t[j]) t[j] 0)=(P++ [mget (nmb m t[j]) t[j] 0])++t.drop (j+1) by
    rw [List.set_append_right _ _ (by omega),hP,Nat.sub_self,List.set_cons_zero];simp]
   have:=ih (j+1) (nmb m t[j]) (P++ [mget (nmb m t[j]) t[j] 0]) (by omega) (by simp [hP]) (by omega);rw [zb (by omega),this];simp only [rnm,qc h0];simp
theorem zBw (l:List (List Int)) (hl:l.length<=1000) (hx: ∀t∈l,t.length<=1000): ∀(k j:Nat) (m:List (Int×Int)) (D:List (List Int)),j+k=l.length->D.length=j->m.length<=1000*j->zhO M m (D++List.replicate k []) l l.length j=some (.inl (D++rnL m (l.drop j),())):=by
 intro k
 induction k with
 | zero=>
  intro j m D hj hD hm;obtain rfl:j=l.length:=by omega
  apply zrZ
  simp [zjP,rnL]
 | succ k ih=>
  intro j m D hj hD hm;have h1:j<l.length:=by omega
  have ht:=hx _ (qi h1);apply zrZ;simp only [zjP];have hlen:(D++List.replicate (k+1) ([]:List Int)).length=l.length:=by simp;omega
  have hget:(D++List.replicate (k+1) ([]:List Int))[j]?=some []:=by
   rw [List.getElem?_append_right (by omega),hD,Nat.sub_self];rfl
  rw [qb (by simpa using h1),zd h1];simp only [qa];rw [qb (by omega),qb (by rw [hlen];omega),qo,hget];simp only [qa];have hin:=zDT (D++List.replicate (k+1) []) j (by omega) (by omega) l l.length j l[j] (by omega) l[j].length 0 m [] (by omega) rfl (by omega);rw [show ((0:Nat):Int)=0 from rfl] at hin;simp only [qB,qk] at hin;rw [hin];simp only [qa,qd]
  have hset:(D++List.replicate (k+1) []).set j (rnm m l[j]).1=(D++ [(rnm m l[j]).1])++List.replicate k []:=by
   rw [List.set_append_right _ _ (by omega),hD,Nat.sub_self,List.replicate_succ,List.set_cons_zero];simp
  have hrl:=(zvp l[j] m).2;rw [zb (by omega),hset,ih (j+1) _ _ (by omega) (by simp [hD]) (by omega),qj h1];simp [rnL]
theorem zHE (l:List (List Int)) (hl:l.length<=1000) (hx: ∀t∈l,t.length<=1000):zoB M l=some ((rnL [] l,()),()):=by
 apply zBD;have:=zBw l hl hx l.length 0 [] [] (by omega) rfl (by simp);rw [show ((0:Nat):Int)=0 from rfl] at this;simp only [qB,qk] at this;simp only [zst];rw [qb ⟨by omega,by omega,trivial⟩,qo,this];rfl
theorem zCP (a b:List Int) (hab:a.length=b.length) (ha:a.length<=17592186044416): ∀k i:Nat,i+k=a.length->zcY M a b a.length i=some (if a.drop i=b.drop i then .inl () else .inr ((false,()),())):=by
 intro k
 induction k with
 | zero=>
  intro i hi;obtain rfl:i=a.length:=by omega
  apply zlP;simp only [zeq]
  rw [qc (by simp),qG,hab,qG,qb rfl]
 | succ k ih=>
  intro i hi;have h1:i<a.length:=by omega
  have h2:i<b.length:=by omega
  apply zlP;simp only [zeq];rw [qb (by simpa using h1),zd h1,zd h2];simp only [qa];rw [qj h1,qj h2];by_cases he:a[i]=b[i]
  ·rw [qc (by simpa using he),zb (by omega),ih (i+1) (by omega)];by_cases hd:a.drop (i+1)=b.drop (i+1)
   ·rw [qb hd,qb (by rw [he,hd])]
   ·rw [qc hd,qc (fun h=>hd (List.cons.inj h).2)]
  ·rw [qb (by simpa using he),qc (fun h=>he (List.cons.inj h).1)]
theorem zkI (a b:List Int) (ha:a.length<=17592186044416):zD M a b=some ((decide (a=b),()),()):=by
 apply zuM;simp only [zj2];by_cases hl:a.length=b.length
 ·have:=zCP a b hl ha a.length 0 (by omega);rw [show ((0:Nat):Int)=0 from rfl,qk,qk] at this;rw [qc (by simp [hl]),this];by_cases h:a=b
  ·rw [qb h];simp [h]
  ·rw [qc h];simp [h]
 ·have: ¬a=b:=fun h=>hl (by rw [h])
  rw [qb (by simp;omega)];simp [this]
end Go.Proofs.YtchkojfhcdcnmaaGreatCk.Ev
