/- Texts laid together: PAa, PAb, PW, PHo, PXa, PHa, PX, RFp, YBa, PBa, PB, VAa, VAc, VAb, QD, WAc, QE, QHa, PEb, QIa, QJa, QH, QKa; no condition but those that each theorem names. -/
import Derived.Test.YtchkojfhcdcnmaaGreatMdEq
namespace Go.Proofs.YtchkojfhcdcnmaaGreatMd.Ev
open Go
set_option autoImplicit false
set_option linter.unusedVariables false
set_option linter.unusedSimpArgs false
theorem w64 {x:Int} (h: -9223372036854775808<=x) (k:x<9223372036854775808):IntKind.i64.wrap x=x:=by
 rw [IntKind.wrap_i64];omega
theorem zLp {α:Type} (xs:List α) (i:Nat):idx xs (i:Int)=xs[i]?:=by simp [idx]
theorem zEE {α:Type} (xs:List α):idx xs 0=xs[0]?:=by simp [idx]
theorem zd {α:Type} {xs:List α} {i:Nat} (h:i<xs.length):idx xs (i:Int)=some xs[i]:=by simp [idx,h]
theorem zb {i:Nat} (h:i<4611686018427387904):IntKind.i64.wrap ((i:Int)+1)=((i+1:Nat):Int):=by
 rw [w64 (by omega) (by omega)];rfl
abbrev TSign:=List Int×Unit
abbrev TLit:=Bool×List Int×List Int×Unit
def smL (x:TLit):Prop:=x.2.1.length<=1048576∧x.2.2.1.length<=1048576
theorem wu64 {x:Int} (h:0<=x) (k:x<18446744073709551616):IntKind.u64.wrap x=x:=by
 simp only [IntKind.wrap,IntKind.bits,IntKind.signed,Bool.false_and,qg,qe];omega
abbrev TCur:=List Int×Int×Int×Unit
theorem zh (c:TCur):(c.1,c.2.1,c.2.2.1,())=c:=rfl
def Cu (code:List Int) (j:Int) (c:TCur):Prop:=c.1=code∧0<=c.2.1∧c.2.1<=j
def isBytes (code:List Int):Prop:=code.length<=1048576∧ ∀b∈code,0<=b∧b<=255
theorem and255 (x:Int):0<=bitsI .and .u64 x 255∧bitsI .and .u64 x 255<=255:=by
 have h:(BitVec.ofInt 64 x &&& BitVec.ofInt 64 255).toNat<=255:=by
  rw [BitVec.toNat_and];exact Nat.le_trans Nat.and_le_right (by decide)
 have e:bitsI .and .u64 x 255=IntKind.u64.wrap (((BitVec.ofInt 64 x &&& BitVec.ofInt 64 255).toNat:Nat):Int):=rfl;rw [e,wu64 (by omega) (by omega)];omega
theorem zH2 {code:List Int} (hb:isBytes code) {j:Int} (hj:j<=1000000000) {c:TCur} (hc:Cu code j c): ∃x c',ziL M c=some ((x,()),(c',()))∧0<=x∧x<=255∧Cu code (j+1) c':=by
 obtain ⟨h1,h2,h3⟩:=hc;have hin:IntKind.i64.wrap (c.2.1+1)=c.2.1+1:=w64 (by omega) (by omega)
 have tail: ∀(x0:Int),0<=x0->x0<=255->(∃r:(Int×Unit)×(TCur×Unit),(if (decide ((IntKind.i64.wrap (c.2.1+(1:Int)))<=(List.length c.1:Int)))=true then (some ((x0,()),((c.1,(IntKind.i64.wrap (c.2.1+(1:Int))),(IntKind.u64.wrap ((IntKind.u64.wrap ((IntKind.u64.wrap (c.2.2.1*(6364136223846793005:Int)))+(IntKind.u64.wrap x0)))+(1442695040888963407:Int))),()),()))) else (if (40:Int)<0 then none else (some (((IntKind.i64.wrap (bitsI .and .u64 (shrI .u64 (IntKind.u64.wrap ((IntKind.u64.wrap ((IntKind.u64.wrap (c.2.2.1*(6364136223846793005:Int)))+(IntKind.u64.wrap x0)))+(1442695040888963407:Int))) (40:Int)) (255:Int))),()),((c.1,(IntKind.i64.wrap (c.2.1+(1:Int))),(IntKind.u64.wrap ((IntKind.u64.wrap ((IntKind.u64.wrap (c.2.2.1*(6364136223846793005:Int)))+(IntKind.u64.wrap x0)))+(1442695040888963407:Int))),()),())))))=some r∧0<=r.1.1∧r.1.1<=255∧Cu code (j+1) r.2.1):=by
  intro x0 g0 g1;rw [hin];by_cases hq:c.2.1+1<=(List.length c.1:Int)
  ·rw [qb (by simpa using hq)];exact ⟨_,rfl,g0,g1,h1,by show 0<=c.2.1+1;omega,by show c.2.1+1<=j+1;omega⟩
  ·rw [qc (by simpa using hq),qc (by omega)];have ha:=and255 (shrI .u64 (IntKind.u64.wrap ((IntKind.u64.wrap ((IntKind.u64.wrap (c.2.2.1*(6364136223846793005:Int)))+(IntKind.u64.wrap x0)))+(1442695040888963407:Int))) (40:Int));refine ⟨_,rfl,?_,?_,h1,by show 0<=c.2.1+1;omega,by show c.2.1+1<=j+1;omega⟩
   ·show 0<=IntKind.i64.wrap _;rw [w64 (by omega) (by omega)];exact ha.1
   ·show IntKind.i64.wrap _<=255;rw [w64 (by omega) (by omega)];exact ha.2
 by_cases hl:c.2.1<(List.length c.1:Int)
 ·obtain ⟨m,hm⟩: ∃m:Nat,c.2.1=(m:Int):=⟨c.2.1.toNat,by omega⟩;have hml:m<c.1.length:=by omega
  have hbb:=hb.2 (c.1[m]) (by rw [<-h1];exact qi hml);obtain ⟨r,r1,r2,r3,r4⟩:=tail c.1[m] hbb.1 hbb.2;refine ⟨r.1.1,r.2.1,zuz _ ?_,r2,r3,r4⟩;simp only [zlB];have hix:idx c.1 c.2.1=some c.1[m]:=by rw [hm,zd hml]
  rw [qb (by simpa using hl),hix];simp only [qa];rw [w64 (x:=c.1[m]) (by omega) (by omega)];simp only [qa,qd];exact r1
 ·obtain ⟨r,r1,r2,r3,r4⟩:=tail 0 (by omega) (by omega);refine ⟨r.1.1,r.2.1,zuz _ ?_,r2,r3,r4⟩;simp only [zlB];rw [qc (by simpa using hl)];simp only [qa,qd];exact r1
theorem zEl {code:List Int} (hb:isBytes code) {j:Int} (hj:j<=100000000) {c:TCur} (hc:Cu code j c) (n:Int) (hn:n<=1000000000): ∃x c',ze M c n=some ((x,()),(c',()))∧0<=x∧(x<n∨x=0)∧Cu code (j+2) c':=by
 by_cases h1:n<=1
 ·refine ⟨0,c,zo0 _ _ ?_,by omega,.inr rfl,hc.1,hc.2.1,by have:=hc.2.2;omega⟩;simp only [ziG];rw [qb (by simpa using h1)]
 ·obtain ⟨x,c',n1,n2,n3,n4⟩:=zH2 hb (by omega) hc;by_cases h2:n>200
  ·obtain ⟨y,c'',m1,m2,m3,m4⟩:=zH2 hb (by omega) n4;have hw:IntKind.i64.wrap (IntKind.i64.wrap (x*256)+y)=x*256+y:=by rw [w64 (x:=x*256) (by omega) (by omega),w64 (by omega) (by omega)]
   refine ⟨Int.tmod (x*256+y) n,c'',zo0 _ _ ?_,Int.tmod_nonneg _ (by omega),.inl (Int.tmod_lt_of_pos _ (by omega)),m4.1,m4.2.1,by have:=m4.2.2;omega⟩;simp only [ziG];rw [qc (by simpa using h1),zh,n1];simp only [qa];rw [qb (by simpa using h2),zh,m1];simp only [qa,qd];rw [qc (by omega),hw]
  ·refine ⟨Int.tmod x n,c',zo0 _ _ ?_,Int.tmod_nonneg _ (by omega),.inl (Int.tmod_lt_of_pos _ (by omega)),n4.1,n4.2.1,by have:=n4.2.2;omega⟩;simp only [ziG];rw [qc (by simpa using h1),zh,n1];simp only [qa];rw [qc (by simpa using h2)];simp only [qa,qd];rw [qc (by omega)]
theorem zMu {code:List Int} (hb:isBytes code) {j:Int} (hj:j<=100000000) {c:TCur} (hc:Cu code j c) (n:Int) (hn:n<=1000000000): ∃x c',zJ M c n=some ((x,()),(c',()))∧Cu code (j+2) c':=by
 obtain ⟨x,c',n1,_,_,n4⟩:=zEl hb hj hc n hn;refine ⟨x==0,c',zAy _ _ ?_,n4⟩;simp only [zp6,zh,n1,qa]
def Okk {α:Type} (P:α->Prop) (o:Option α):Prop:= ∃x,o=some x∧P x
theorem Okk.pure {α:Type} {P:α->Prop} {x:α} (h:P x):Okk P (some x):=⟨x,rfl,h⟩
theorem Okk.bind {α β:Type} {P:α->Prop} {Q:β->Prop} {o:Option α} {f:α->Option β} (h:Okk P o) (k: ∀x,P x->Okk Q (f x)):Okk Q (o.bind f):=by
 obtain ⟨x,rfl,hx⟩:=h;exact k x hx
theorem Okk.ite {α:Type} {P:α->Prop} {c:Prop} [Decidable c] {a b:Option α} (h:c->Okk P a) (k: ¬c->Okk P b):Okk P (if c then a else b):=by
 by_cases hc:c
 ·rw [qb hc];exact h hc
 ·rw [qc hc];exact k hc
theorem Okk.iteT {α:Type} {P:α->Prop} {c:Prop} [Decidable c] {a b:Option α} (hc:c) (h:Okk P a):Okk P (if c then a else b):=by rw [qb hc];exact h
theorem Okk.iteF {α:Type} {P:α->Prop} {c:Prop} [Decidable c] {a b:Option α} (hc: ¬c) (h:Okk P b):Okk P (if c then a else b):=by rw [qc hc];exact h
theorem Okk.mono {α:Type} {P Q:α->Prop} {o:Option α} (h:Okk P o) (k: ∀x,P x->Q x):Okk Q o:=by
 obtain ⟨x,hx,p⟩:=h;exact ⟨x,hx,k x p⟩
theorem Okk.lift {α:Type} {P:α->Prop} {o c:Option α} (h:Okk P o) (k: ∀ {r},o=some r->c=some r):Okk P c:=by
 obtain ⟨x,hx,p⟩:=h;exact ⟨x,k hx,p⟩
theorem Okk.idx {α:Type} {l:List α} {i:Int} (h:0<=i) (k:i<l.length):Okk (fun x=>x∈l) (idx l i):=by
 obtain ⟨m,rfl⟩: ∃m:Nat,i=(m:Int):=⟨i.toNat,by omega⟩;have hm:m<l.length:=by omega
 exact ⟨l[m],zd hm,qi hm⟩
theorem Okk.get {α:Type} {l:List α} {i:Nat} (k:i<l.length):Okk (fun x=>x∈l) (l[i]?):=⟨l[i],by simp [k],qi k⟩
theorem Cu.mono {code:List Int} {i j:Int} {c:TCur} (h:Cu code i c) (k:i<=j):Cu code j c:=⟨h.1,h.2.1,by have:=h.2.2;omega⟩
section
variable {code : List Int} (hb : isBytes code) {j : Int} {c : TCur} (hc : Cu code j c)
include hb hc
theorem zck (n:Int) (hj:j<=100000000) (hn:n<=1000000000):Okk (fun r=>0<=r.1.1∧(r.1.1<n∨r.1.1=0)∧Cu code (j+2) r.2.1) (ze M c n):=by
 obtain ⟨x,c',h,h1,h2,h3⟩:=zEl hb hj hc n hn;exact ⟨_,h,h1,h2,h3⟩
theorem zlp (n:Int) (hj:j<=100000000) (hn:n<=1000000000):Okk (fun r=>Cu code (j+2) r.2.1) (zJ M c n):=by
 obtain ⟨x,c',h,h1⟩:=zMu hb hj hc n hn;exact ⟨_,h,h1⟩
end
def SgD (a:List Int):Prop:=a.length<=10∧ ∀x∈a,0<=x∧x<=3
theorem dec64 {x:Int} (h: -9223372036854775807<=x) (k:x<9223372036854775808):IntKind.i64.wrap (x-1)=x-1:=w64 (by omega) (by omega)
section
variable {code : List Int} (hb : isBytes code)
include hb
theorem zHJ {j:Int} (hj:j<=1000000) {c:TCur} (hc:Cu code j c):Okk (fun r=>SgD r.1.1.1∧Cu code (j+2) r.2.1) (zix M c):=by
 refine Okk.lift ?_ (zzI c);simp only [zoY];refine Okk.bind (P:=fun y=> ∃c' a,y= .inl (c',([],()),(a,()),())∧SgD a∧Cu code (j+2) c') ?_ ?_
 ·refine Okk.bind (zck hb hc 40 (by omega) (by omega)) ?_
  rintro ⟨⟨x,⟨⟩⟩,⟨c',⟨⟩⟩⟩ ⟨_,_,h⟩
  refine Okk.ite (fun _=> .pure ⟨c',_,rfl,by simp [SgD],h⟩) fun _=>Okk.ite (fun _=> .pure ⟨c',_,rfl,by simp [SgD],h⟩) fun _=>Okk.ite (fun _=> .pure ⟨c',_,rfl,by simp [SgD],h⟩) fun _=> .pure ⟨c',_,rfl,by simp [SgD],h⟩
 ·rintro _ ⟨c',a,rfl,h1,h2⟩
  exact .pure ⟨h1,h2⟩
theorem zAl {a:List Int} (ha:SgD a) (vars:Int) (hv:vars<=1000) (deep:Int) {j:Int} (hj:j<=1000000) {c:TCur} (hc:Cu code j c) (N:Nat) (hN:1<=N) (K:Int) (hK:j+6<=K)
  (hL:1<deep-> ∀(n v:Int) (c4:TCur),0<=v->v<=3->Cu code (j+6) c4->Okk (fun y=> ∃(c5:TCur) (t:List Int),y= .inl (c5,t,())∧0<t.length∧t.length<=N∧Cu code K c5) (zal M c4 deep vars (a,()) [n] v)):
  Okk (fun r=>r.1.1.length<=N∧0<r.1.1.length∧Cu code K r.2.1) (zb3 M c (a,()) deep vars):=by
 refine Okk.lift ?_ (zzR c (a,()) deep vars);simp only [zoT,zh];have hal:=ha.1;refine Okk.ite (fun _=> .pure ⟨hN,by simp,hc.mono (by omega)⟩) fun h0=>?_
 have hpos:0<a.length:=by simp at h0;exact qX.2 h0
 have A: ∀(x:Int) (c3:TCur),0<=x->(x<(a.length:Int)∨x=0)->Cu code (j+4) c3->Okk (fun y=> ∃(c4:TCur) (n:Int),y= .inl (c4,deep,vars,(a,()),n,())∧0<=n∧n<a.length∧Cu code (j+6) c4) ((((idx a x).bind fun x5=>(if (decide (x5>(0:Int)))=true then (if (decide (deep<=(1:Int)))=true then ((ze M c3 (List.length a:Int)).bind fun r6=>(if (2:Int)=0 then none else (some (.inl ((r6.2.1.1,r6.2.1.2.1,r6.2.1.2.2.1,()),deep,vars,(a,()),(IntKind.i64.wrap (Int.tdiv r6.1.1 (2:Int))),()))))) else (some (.inl (c3,deep,vars,(a,()),x,())))) else (some (.inl (c3,deep,vars,(a,()),x,()))))):Option ((((List Int)×Int×Int×Unit)×Int×Int×((List Int)×Unit)×Int×Unit)⊕((List Int)×Unit)×(((List Int)×Int×Int×Unit)×Unit)))):=by
  intro x c3 hx0 hx1 hc3;refine Okk.bind (Okk.idx hx0 (by omega)) fun y hy=>?_
  refine Okk.ite (fun _=>Okk.ite (fun _=>?_) fun _=> .pure ⟨c3,x,rfl,hx0,by omega,hc3.mono (by omega)⟩) fun _=> .pure ⟨c3,x,rfl,hx0,by omega,hc3.mono (by omega)⟩
  refine Okk.bind (zck hb hc3 _ (by omega) (by omega)) ?_
  rintro ⟨⟨z,⟨⟩⟩,⟨c4,⟨⟩⟩⟩ ⟨h1,h2,h3⟩
  simp only at h1 h2 h3;have h5:=Int.tdiv_nonneg h1 (show (0:Int)<=2 by omega);have h6:Int.tdiv z 2<=z:=by rw [Int.tdiv_eq_ediv_of_nonneg h1];omega
  refine Okk.iteF (by omega) (.pure ⟨c4,_,rfl,?_,?_,h3.mono (by omega)⟩)
  ·simp only;rw [w64 (by omega) (by omega)];exact h5
  ·simp only;rw [w64 (by omega) (by omega)];omega
 have B: ∀(n:Int) (c4:TCur),0<=n->n<(a.length:Int)->Cu code (j+6) c4->Okk (fun r:((List Int)×Unit)×(TCur×Unit)=>r.1.1.length<=N∧0<r.1.1.length∧Cu code K r.2.1) ((idx a n).bind fun x7=>(if (decide (x7>(0:Int)))=true then (if (decide (deep<=(1:Int)))=true then (some ((([(0:Int)]:List Int),()),(c4,()))) else ((idx a n).bind fun x8=>((zal M c4 deep vars (a,()) ([n]:List Int) x8).bind (Sum.elim (fun y9=>(some ((y9.2.1,()),((y9.1.1,y9.1.2.1,y9.1.2.2.1,()),())))) (fun r10=>(some r10)))))) else ((idx a n).bind fun x11=>((zal M c4 deep vars (a,()) ([n]:List Int) x11).bind (Sum.elim (fun y12=>(some ((y12.2.1,()),((y12.1.1,y12.1.2.1,y12.1.2.2.1,()),())))) (fun r13=>(some r13))))))):=by
  intro n c4 hn0 hn1 hc4;obtain ⟨v,hv1,hv2⟩:=Okk.idx (l:=a) hn0 hn1;rw [hv1];simp only [qa];have:=ha.2 v hv2;refine Okk.ite (fun hv3=>?_) fun hv3=>?_
  ·refine Okk.ite (fun _=> .pure ⟨hN,by simp,hc4.mono (by omega)⟩) fun hd=>?_
   refine Okk.bind (hL (by simp at hd;omega) n v c4 (by omega) (by omega) hc4) ?_
   rintro _ ⟨c5,t,rfl,t1,t2,t3⟩
   exact .pure ⟨t2,t1,t3⟩
  ·obtain rfl:v=0:=by simp at hv3;omega
   have hl:zal M c4 deep vars (a,()) [n] 0=some (.inl (c4,[n],())):=by
    apply zkc;simp [zec,zh]
   rw [hl];exact .pure ⟨hN,by simp,hc4.mono (by omega)⟩
 refine Okk.ite (fun _=>?_) fun _=>?_
 ·refine Okk.bind (zlp hb hc 3 (by omega) (by omega)) ?_
  rintro ⟨⟨x,⟨⟩⟩,⟨c2,⟨⟩⟩⟩ h2
  refine Okk.ite (fun _=>?_) fun _=>?_
  ·refine Okk.bind (zck hb h2 vars (by omega) (by omega)) ?_
   rintro ⟨⟨y,⟨⟩⟩,⟨c3,⟨⟩⟩⟩ ⟨_,_,h3⟩
   exact .pure ⟨hN,by simp,h3.mono (by omega)⟩
  ·refine Okk.bind (zck hb h2 _ (by omega) (by omega)) ?_
   rintro ⟨⟨y,⟨⟩⟩,⟨c3,⟨⟩⟩⟩ ⟨g1,g2,h3⟩
   refine Okk.bind (A y c3 g1 g2 (h3.mono (by omega))) ?_
   rintro _ ⟨c4,n,rfl,k1,k2,k3⟩
   exact B n c4 k1 k2 k3
 ·refine Okk.bind (zck hb hc _ (by omega) (by omega)) ?_
  rintro ⟨⟨y,⟨⟩⟩,⟨c3,⟨⟩⟩⟩ ⟨g1,g2,h3⟩
  refine Okk.bind (A y c3 g1 g2 (h3.mono (by omega))) ?_
  rintro _ ⟨c4,n,rfl,k1,k2,k3⟩
  exact B n c4 k1 k2 k3
def dl:Nat->Nat
 | 0=>1
 | d+1=>1+3*dl d
def dk:Nat->Int
 | 0=>6
 | d+1=>6+3*dk d
omit hb in
theorem zL4 (d:Nat):1<=dl d:=by cases d<;>simp [dl]
omit hb in
theorem zMh (d:Nat):6<=dk d:=by
 induction d with
 | zero=>simp [dk]
 | succ d ih=>simp [dk];omega
theorem zyD {a:List Int} (ha:SgD a) (vars:Int) (hv:vars<=1000): ∀(d:Nat) (deep:Int) (j:Int) (c:TCur),deep<=(d:Int)+1->d<=5->j+dk d<=200000->Cu code j c->Okk (fun r=>r.1.1.length<=dl d∧0<r.1.1.length∧Cu code (j+dk d) r.2.1) (zb3 M c (a,()) deep vars):=by
 intro d
 induction d with
 | zero=>
  intro deep j c hd _ hj hc;simp only [dk] at hj
  exact zAl hb ha vars hv deep (by omega) hc 1 (by omega) (j+6) (by omega) (fun h=>by omega)
 | succ d ih=>
  intro deep j c hd hd5 hj hc
  have hdl:dl d<=1000:=by
   have:d<=4:=by omega
   rcases d with _ | _ | _ | _ | _ | d<;>first | (simp [dl];done) | omega
  have hdk:dk d<=10000:=by
   rcases d with _ | _ | _ | _ | _ | d<;>first | (simp [dk];done) | omega
  have hp:=zMh d;simp only [dk] at hj
  have loop:1<deep-> ∀(k:Nat) (out:List Int) (j':Int) (c4:TCur),k<=3->0<out.length->out.length+k*dl d<=10000->j'+k*dk d<=j+6+3*dk d->Cu code j' c4->Okk (fun y=> ∃(c5:TCur) (t:List Int),y= .inl (c5,t,())∧0<t.length∧t.length<=out.length+k*dl d∧Cu code (j'+k*dk d) c5) (zal M c4 deep vars (a,()) out (k:Int)):=by
   intro hdeep k
   induction k with
   | zero=>
    intro out j' c4 _ h0 _ _ hc4;refine Okk.lift ?_ (zkc _ _ _ _ _ _);simp only [zec,zh]
    refine Okk.iteF (by simp) (.pure ⟨c4,out,rfl,h0,by omega,hc4.mono (by simp)⟩)
   | succ k ihk=>
    intro out j' c4 hk h0 ho hj2 hc4;have e1:((k+1:Nat):Int)*dk d=k*dk d+dk d:=by rw [Int.natCast_add,Int.add_mul];simp
    have e2:(k+1)*dl d=k*dl d+dl d:=by rw [Nat.add_mul];simp
    have e3:0<=(k:Int)*dk d:=Int.mul_nonneg (by omega) (by omega);rw [e1] at hj2;rw [e2] at ho;refine Okk.lift ?_ (zkc _ _ _ _ _ _);simp only [zec,zh];refine Okk.iteT (by simp<;>omega) ?_;rw [dec64 (x:=deep) (by omega) (by omega),dec64 (x:=((k+1:Nat):Int)) (by omega) (by omega),show ((k+1:Nat):Int)-1=(k:Int) by omega];refine Okk.bind (ih (deep-1) j' c4 (by omega) (by omega) (by omega) hc4) ?_
    rintro ⟨⟨t,⟨⟩⟩,⟨c5,⟨⟩⟩⟩ ⟨g1,g2,g3⟩
    simp only at g1 g2 g3;refine Okk.iteT (by simp only;omega) ?_;refine Okk.mono (ihk (out++t) (j'+dk d) c5 (by omega) (by simp;omega) (by rw [qL];omega) (by omega) g3) ?_
    rintro _ ⟨c6,t',rfl,h1,h2,h3⟩
    refine ⟨c6,t',rfl,h1,?_,h3.mono (by rw [e1];omega)⟩;rw [qL] at h2;rw [e2];omega
  refine zAl hb ha vars hv deep (by omega) hc (dl (d+1)) (zL4 _) (j+dk (d+1)) (by simp only [dk];omega) ?_;intro hdeep n v c4 hv0 hv3 hc4;obtain ⟨k,rfl⟩: ∃m:Nat,v=(m:Int):=⟨v.toNat,by omega⟩;have e4:(k:Int)*dk d<=3*dk d:=Int.mul_le_mul_of_nonneg_right (by omega) (by omega);have e5:k*dl d<=3*dl d:=Nat.mul_le_mul_right _ (by omega);refine Okk.mono (loop hdeep k [n] (j+6) c4 (by omega) (by simp) (by simp only [qD,qT];omega) (by omega) hc4) ?_
  rintro _ ⟨c6,t',rfl,h1,h2,h3⟩
  refine ⟨c6,t',rfl,h1,?_,h3.mono (by simp only [dk];omega)⟩;simp only [qD,qT] at h2;simp only [dl];omega
end
theorem zLd {code:List Int} (hb:isBytes code) {j:Int} (hj:j<=100000000) {c:TCur} (hc:Cu code j c) (l:List Int) (hl:l.length<=1000000) (hl0:0<l.length): ∃x c',zcj M c l=some ((x,()),(c',()))∧x∈l∧Cu code (j+2) c':=by
 obtain ⟨x,c',n1,n2,n3,n4⟩:=zEl hb hj hc l.length (by omega);obtain ⟨m,rfl⟩: ∃m:Nat,x=(m:Int):=⟨x.toNat,by omega⟩;have hm:m<l.length:=by omega
 refine ⟨l[m],c',zy2 _ _ ?_,qi hm,n4⟩;simp only [zod,zh,n1,qa];rw [zd hm];rfl
section
variable {code : List Int} (hb : isBytes code) {j : Int} {c : TCur} (hc : Cu code j c)
include hb hc
theorem zw1 (l:List Int) (hj:j<=100000000) (hl:l.length<=1000000) (hl0:0<l.length):Okk (fun r=>r.1.1∈l∧Cu code (j+2) r.2.1) (zcj M c l):=by
 obtain ⟨x,c',h,h1,h2⟩:=zLd hb hj hc l hl hl0;exact ⟨_,h,h1,h2⟩
end
section
variable {code : List Int} (hb : isBytes code)
include hb
def liD (x:TLit):Prop:=x.2.1.length<=100∧x.2.2.1.length<=100
theorem zGy {a:List Int} (ha:SgD a) {j:Int} (hj:j<=90000) {c:TCur} (hc:Cu code j c):Okk (fun r=>liD r.1.1∧Cu code (j+1000) r.2.1) (zg4 M c (a,())):=by
 refine Okk.lift ?_ (zA3 c (a,()));simp only [zqf,zh];refine Okk.bind (zlp hb hc 3 (by omega) (by omega)) ?_
 rintro ⟨⟨b,⟨⟩⟩,⟨c1,⟨⟩⟩⟩ h1
 refine Okk.bind (zck hb h1 3 (by omega) (by omega)) ?_
 rintro ⟨⟨n,⟨⟩⟩,⟨c2,⟨⟩⟩⟩ ⟨n1,n2,h2⟩
 simp only at n1 n2 h2;refine Okk.bind (zyD hb ha 3 (by omega) 3 (IntKind.i64.wrap (1+n)) (j+4) c2 (by rw [w64 (by omega) (by omega)];omega) (by omega) (by simp only [dk];omega) (h2.mono (by omega))) ?_
 rintro ⟨⟨t,⟨⟩⟩,⟨c3,⟨⟩⟩⟩ ⟨t1,_,h3⟩
 simp only [dl,dk] at t1 h3;refine Okk.bind (zck hb h3 2 (by omega) (by omega)) ?_
 rintro ⟨⟨m,⟨⟩⟩,⟨c4,⟨⟩⟩⟩ ⟨m1,m2,h4⟩
 simp only at m1 m2 h4;refine Okk.bind (zyD hb ha 3 (by omega) 3 (IntKind.i64.wrap (1+m)) (j+400) c4 (by rw [w64 (by omega) (by omega)];omega) (by omega) (by simp only [dk];omega) (h4.mono (by omega))) ?_
 rintro ⟨⟨u,⟨⟩⟩,⟨c5,⟨⟩⟩⟩ ⟨u1,_,h5⟩
 simp only [dl,dk] at u1 h5;refine Okk.bind (P:=fun y=> ∃(c':TCur) (z x:TLit),y= .inl (c',z,x,())∧liD x∧Cu code (j+1000) c') ?_ ?_
 ·refine Okk.bind (zlp hb h5 3 (by omega) (by omega)) ?_
  rintro ⟨⟨b2,⟨⟩⟩,⟨c6,⟨⟩⟩⟩ h6
  refine Okk.ite (fun _=> .pure ⟨c6,_,_,rfl,⟨by simp only;omega,by simp⟩,h6.mono (by omega)⟩) fun _=> .pure ⟨c6,_,_,rfl,⟨by simp only;omega,by simp only;omega⟩,h6.mono (by omega)⟩
 ·rintro _ ⟨c',z,x,rfl,h1,h2⟩
  exact .pure ⟨h1,h2⟩
theorem zDs {a:List Int} (ha:SgD a): ∀(k:Nat) (j:Int) (c:TCur) (out:List TLit),k<=20->out.length+k<=20->j+1000*k<=90000->(∀x∈out,liD x)->Cu code j c->Okk (fun y=> ∃(c':TCur) (o:List TLit),y= .inl (c',(a,()),o,())∧o.length=out.length+k∧(∀x∈o,liD x)∧Cu code (j+1000*k) c') (zeH M c (a,()) out (k:Int)):=by
 intro k
 induction k with
 | zero=>
  intro j c out _ _ _ hx hc;refine Okk.lift ?_ (zoN _ _ _ _);simp only [zgE,zh]
  exact Okk.iteF (by simp) (.pure ⟨c,out,rfl,by simp,hx,by simpa using hc⟩)
 | succ k ih=>
  intro j c out hk ho hj hx hc;refine Okk.lift ?_ (zoN _ _ _ _);simp only [zgE,zh];refine Okk.iteT (by simp<;>omega) ?_;rw [dec64 (by omega) (by omega),show ((k+1:Nat):Int)-1=(k:Int) by omega];refine Okk.bind (zGy hb ha (by omega) hc) ?_
  rintro ⟨⟨x,⟨⟩⟩,⟨c1,⟨⟩⟩⟩ ⟨h1,h2⟩
  refine Okk.iteT (by simp only [qD,qT];omega) ?_
  ·refine Okk.mono (ih (j+1000) c1 (out++ [x]) (by omega) (by simp;omega) (by omega) ?_ h2) ?_
   ·intro y hy;simp only [qr,qM] at hy;rcases hy with hy | rfl
    ·exact hx y hy
    ·exact h1
   ·rintro _ ⟨c',o,rfl,g1,g2,g3⟩
    exact ⟨c',o,rfl,by rw [g1,qL];simp only [qD,qT];omega,g2,g3.mono (by omega)⟩
theorem zDx {a:List Int} (ha:SgD a): ∀(k:Nat) (j:Int) (c:TCur) (out:List TLit),out.length+k=9->j+1010*(k+1)<=90000->(∀x∈out,liD x)->Cu code j c->Okk (fun y=> ∃(c':TCur) (o:List TLit),y= .inl (c',o,())∧o.length<=9∧(∀x∈o,liD x)∧Cu code (j+1010*(k+1)) c') (zdO M c (a,()) out):=by
 intro k
 induction k with
 | zero=>
  intro j c out ho hj hx hc;refine Okk.lift ?_ (znE _ _ _);simp only [zfM,zh];refine Okk.bind (zck hb hc 2 (by omega) (by omega)) ?_
  rintro ⟨⟨n,⟨⟩⟩,⟨c1,⟨⟩⟩⟩ ⟨n1,n2,h1⟩
  simp only at n1 n2 h1;simp only [w64 (x:=8+n) (by omega) (by omega)]
  exact Okk.iteF (by simp;omega) (.pure ⟨c1,out,rfl,by omega,hx,h1.mono (by omega)⟩)
 | succ k ih=>
  intro j c out ho hj hx hc;refine Okk.lift ?_ (znE _ _ _);simp only [zfM,zh];refine Okk.bind (zck hb hc 2 (by omega) (by omega)) ?_
  rintro ⟨⟨n,⟨⟩⟩,⟨c1,⟨⟩⟩⟩ ⟨n1,n2,h1⟩
  simp only at n1 n2 h1;refine Okk.ite (fun _=>?_) fun _=> .pure ⟨c1,out,rfl,by omega,hx,h1.mono (by omega)⟩
  refine Okk.bind (zGy hb ha (by omega) h1) ?_
  rintro ⟨⟨x,⟨⟩⟩,⟨c2,⟨⟩⟩⟩ ⟨g1,g2⟩
  refine Okk.iteT (by simp only [qD,qT];omega) ?_;refine Okk.mono (ih (j+1002) c2 (out++ [x]) (by simp;omega) (by omega) ?_ (g2.mono (by omega))) ?_
  ·intro y hy;simp only [qr,qM] at hy;rcases hy with hy | rfl
   ·exact hx y hy
   ·exact g1
  ·rintro _ ⟨c',o,rfl,k1,k2,k3⟩
   exact ⟨c',o,rfl,k1,k2,k3.mono (by omega)⟩
theorem zAR {a:List Int} (ha:SgD a) {j:Int} (hj:j<=70000) {c:TCur} (hc:Cu code j c):Okk (fun r=>r.1.1.length<=9∧(∀x∈r.1.1,liD x)∧Cu code (j+20000) r.2.1) (zcx M c (a,())):=by
 refine Okk.lift ?_ (zyi c (a,()));simp only [zne,zh];refine Okk.bind (zw1 hb hc [0,1,1,1,2,2,3] (by omega) (by simp) (by simp)) ?_
 rintro ⟨⟨n,⟨⟩⟩,⟨c1,⟨⟩⟩⟩ ⟨n1,h1⟩
 simp only at n1 h1;obtain ⟨k,rfl,hk⟩: ∃m:Nat,n=(m:Int)∧m<=3:=⟨n.toNat,by simp at n1;omega,by simp at n1;omega⟩;refine Okk.bind (zDs hb ha k (j+2) c1 [] (by omega) (by simp;omega) (by omega) (by simp) h1) ?_
 rintro _ ⟨c2,o,rfl,o1,o2,h2⟩
 simp only [qT,qJ] at o1;simp only [qd];refine Okk.bind (P:=fun y=> ∃(c':TCur) (o:List TLit),y= .inl (c',(a,()),o,())∧o.length<=4∧(∀x∈o,liD x)∧Cu code (j+3010) c') ?_ ?_
 ·refine Okk.ite (fun ho=>?_) fun _=> .pure ⟨c2,o,rfl,by omega,o2,h2.mono (by omega)⟩
  refine Okk.bind (zlp hb h2 6 (by omega) (by omega)) ?_
  rintro ⟨⟨b,⟨⟩⟩,⟨c3,⟨⟩⟩⟩ h3
  refine Okk.ite (fun _=>?_) fun _=> .pure ⟨c3,o,rfl,by omega,o2,h3.mono (by omega)⟩
  refine Okk.bind (zck hb h3 _ (by omega) (by omega)) ?_
  rintro ⟨⟨i,⟨⟩⟩,⟨c4,⟨⟩⟩⟩ ⟨i1,i2,h4⟩
  simp only at i1 i2 h4;simp only [qt] at ho;refine Okk.iteT (by simp only;omega) ?_;refine Okk.bind (Okk.get (by simp only;omega)) fun x hx=>?_
  refine Okk.bind (zlp hb h4 3 (by omega) (by omega)) ?_
  rintro ⟨⟨b2,⟨⟩⟩,⟨c5,⟨⟩⟩⟩ h5
  refine Okk.iteT (by simp only [qD,qT];omega) (.pure ⟨c5,_,rfl,by simp;omega,?_,h5.mono (by omega)⟩);intro y hy;simp only [qr,qM] at hy;have hxl:=o2 x hx;rcases hy with hy | rfl
  ·exact o2 y hy
  ·exact ⟨hxl.2,hxl.1⟩
 ·rintro _ ⟨c3,o',rfl,q1,q2,h3⟩
  simp only [qd];refine Okk.bind (P:=fun y=> ∃(c':TCur) (o:List TLit),y= .inl (c',(a,()),o,())∧o.length<=4∧(∀x∈o,liD x)∧Cu code (j+3020) c') ?_ ?_
  ·refine Okk.ite (fun ho=>?_) fun _=> .pure ⟨c3,o',rfl,by omega,q2,h3.mono (by omega)⟩
   refine Okk.bind (zlp hb h3 12 (by omega) (by omega)) ?_
   rintro ⟨⟨b,⟨⟩⟩,⟨c4,⟨⟩⟩⟩ h4
   simp only [qt] at ho;refine Okk.ite (fun _=>?_) fun _=> .pure ⟨c4,o',rfl,by omega,q2,h4.mono (by omega)⟩
   refine Okk.iteT (by omega) ?_;refine Okk.bind (Okk.get (by simp only [Int.toNat_zero];omega)) fun x hx=>?_
   refine Okk.iteT (by omega) ?_;refine Okk.bind (Okk.get (by simp only [Int.toNat_zero];omega)) fun y hy=>?_
   refine .pure ⟨c4,_,rfl,by simp;omega,?_,h4.mono (by omega)⟩;intro z hz;rcases List.mem_or_eq_of_mem_set hz with hz | rfl
   ·exact q2 z hz
   ·exact ⟨(q2 y hy).1,(q2 x hx).1⟩
  ·rintro _ ⟨c4,o'',rfl,q3,q4,h4⟩
   simp only [qd];refine Okk.bind (P:=fun y=> ∃(c':TCur) (o:List TLit),y= .inl (c',o,())∧o.length<=9∧(∀x∈o,liD x)∧Cu code (j+20000) c') ?_ ?_
   ·refine Okk.bind (zck hb h4 60 (by omega) (by omega)) ?_
    rintro ⟨⟨i,⟨⟩⟩,⟨c5,⟨⟩⟩⟩ ⟨_,_,h5⟩
    simp only at h5;refine Okk.ite (fun _=>?_) fun _=>Okk.ite (fun _=>?_) fun _=> .pure ⟨c5,o'',rfl,by omega,q4,h5.mono (by omega)⟩
    ·refine Okk.bind (zDx hb ha (9-o''.length) (j+3022) c5 o'' (by omega) (by omega) q4 (h5.mono (by omega))) ?_
     rintro _ ⟨c6,o3,rfl,r1,r2,h6⟩
     exact .pure ⟨c6,o3,rfl,r1,r2,h6.mono (by omega)⟩
    ·refine Okk.iteT (by simp only [qD,qT];omega) (.pure ⟨c5,_,rfl,by simp;omega,?_,h5.mono (by omega)⟩);intro y hy;simp only [qr,qM] at hy;rcases hy with hy | rfl
     ·exact q4 y hy
     ·exact ⟨by simp,by simp⟩
   ·rintro _ ⟨c6,o3,rfl,r1,r2,h6⟩
    exact .pure ⟨r1,r2,h6⟩
end
abbrev TStep:=Int×List Int×List Int×List TLit×Unit
def smP (x:TStep):Prop:=x.2.1.length<=1048576∧x.2.2.1.length<=1048576∧x.2.2.2.1.length<=1048576∧ ∀l∈x.2.2.2.1,smL l
theorem zef (x:TStep):(x.1,x.2.1,x.2.2.1,x.2.2.2.1,())=x:=rfl
def smC (c:List TLit):Prop:=c.length<=1048576∧ ∀x∈c,smL x
section
variable {code : List Int} (hb : isBytes code)
include hb
omit hb in
theorem zsK {c:List TLit} (h:c.length<=20) (hx: ∀x∈c,liD x):smC c:=⟨by omega,fun x h'=>by have:=hx x h';exact ⟨by have:=this.1;omega,by have:=this.2;omega⟩⟩
omit hb in
theorem sg5:SgD [0,0,0,1,1]:=by simp [SgD]
theorem zBJ {a:List Int} (ha:SgD a): ∀(k:Nat) (j:Int) (c:TCur) (o:List (List TLit)),o.length+k<=4->(∀y∈o,smC y)->j+20000*k<=90000->Cu code j c->Okk (fun y=> ∃(c':TCur) (o':List (List TLit)),y= .inl (c',o',())∧o'.length<=4∧(∀y∈o',smC y)∧Cu code (j+20000*k) c') (zeb M c (a,()) o (k:Int)):=by
 intro k
 induction k with
 | zero=>
  intro j c o ho hx hj hc;refine Okk.lift ?_ (znS _ _ _ _);simp only [zgh,zh]
  exact Okk.iteF (by simp) (.pure ⟨c,o,rfl,by omega,hx,hc.mono (by omega)⟩)
 | succ k ih=>
  intro j c o ho hx hj hc;refine Okk.lift ?_ (znS _ _ _ _);simp only [zgh,zh];refine Okk.iteT (by simp<;>omega) ?_;refine Okk.bind (zAR hb ha (by omega) hc) ?_
  rintro ⟨⟨d,⟨⟩⟩,⟨c1,⟨⟩⟩⟩ ⟨d1,d2,d3⟩
  simp only [zh] at d1 d2 d3 ⊢;refine Okk.iteT (by simp;omega) ?_;rw [w64 (x:=((k+1:Nat):Int)-1) (by omega) (by omega),show ((k+1:Nat):Int)-1=(k:Int) by omega];refine Okk.mono (ih (j+20000) c1 (o++ [d]) (by simp;omega) ?_ (by omega) d3) ?_
  ·intro y hy;rcases qr.1 hy with h | h
   ·exact hx y h
   ·rw [qM.1 h];exact zsK (by omega) d2
  ·rintro _ ⟨c',o',rfl,q1,q2,q3⟩
   exact ⟨c',o',rfl,q1,q2,q3.mono (by omega)⟩
theorem zLT {a:List Int} (ha:SgD a) {j:Int} (hj:j<=5000) {c:TCur} (hc:Cu code j c):Okk (fun r=>r.1.1.length<=4∧(∀y∈r.1.1,smC y)∧Cu code (j+85000) r.2.1) (zdZ M c (a,()) 4):=by
 refine Okk.lift ?_ (zrd c (a,()) 4);simp only [zi3,zh];rw [w64 (x:=4+1) (by omega) (by omega)];refine Okk.bind (zck hb hc _ (by omega) (by omega)) ?_
 rintro ⟨⟨x,⟨⟩⟩,⟨c1,⟨⟩⟩⟩ ⟨x1,x2,g⟩
 simp only [zh] at x1 x2 g ⊢;obtain ⟨n,rfl⟩: ∃n:Nat,x=(n:Int):=⟨x.toNat,by omega⟩;refine Okk.bind (zBJ hb ha n (j+2) c1 [] (by simp;omega) (by simp) (by omega) g) ?_
 rintro _ ⟨c',o',rfl,q1,q2,q3⟩
 exact .pure ⟨q1,q2,q3.mono (by omega)⟩
theorem zHo (vars:Int) (hv:vars<=1000) {j:Int} (hj:j<=150000) {c:TCur} (hc:Cu code j c):Okk (fun r=>liD r.1.1∧Cu code (j+1000) r.2.1) (zh9 M c vars):=by
 refine Okk.lift ?_ (zw4 c vars);simp only [zlV,zh];refine Okk.bind (zlp hb hc 3 (by omega) (by omega)) ?_
 rintro ⟨⟨b,⟨⟩⟩,⟨c1,⟨⟩⟩⟩ h1
 refine Okk.bind (zck hb h1 2 (by omega) (by omega)) ?_
 rintro ⟨⟨n,⟨⟩⟩,⟨c2,⟨⟩⟩⟩ ⟨n1,n2,h2⟩
 simp only at n1 n2 h2;refine Okk.bind (zyD hb sg5 vars hv 3 (IntKind.i64.wrap (1+n)) (j+4) c2 (by rw [w64 (by omega) (by omega)];omega) (by omega) (by simp only [dk];omega) (h2.mono (by omega))) ?_
 rintro ⟨⟨t,⟨⟩⟩,⟨c3,⟨⟩⟩⟩ ⟨t1,_,h3⟩
 simp only [dl,dk] at t1 h3;refine Okk.bind (zyD hb sg5 vars hv 3 1 (j+400) c3 (by omega) (by omega) (by simp only [dk];omega) (h3.mono (by omega))) ?_
 rintro ⟨⟨u,⟨⟩⟩,⟨c5,⟨⟩⟩⟩ ⟨u1,_,h5⟩
 simp only [dl,dk] at u1 h5;refine Okk.bind (P:=fun y=> ∃(c':TCur) (z x:TLit),y= .inl (c',z,x,())∧liD x∧Cu code (j+1000) c') ?_ ?_
 ·refine Okk.bind (zlp hb h5 2 (by omega) (by omega)) ?_
  rintro ⟨⟨b2,⟨⟩⟩,⟨c6,⟨⟩⟩⟩ h6
  refine Okk.ite (fun _=>?_) fun _=> .pure ⟨c6,_,_,rfl,⟨by simp only;omega,by simp only;omega⟩,h6.mono (by omega)⟩
  refine Okk.bind (zck hb h6 2 (by omega) (by omega)) ?_
  rintro ⟨⟨m,⟨⟩⟩,⟨c7,⟨⟩⟩⟩ ⟨_,_,h7⟩
  refine Okk.bind (zw1 hb h7 [1,2,-1] (by omega) (by simp) (by simp)) ?_
  rintro ⟨⟨m2,⟨⟩⟩,⟨c8,⟨⟩⟩⟩ ⟨_,h8⟩
  refine Okk.bind (zw1 hb h8 [0,0,1,2] (by omega) (by simp) (by simp)) ?_
  rintro ⟨⟨m3,⟨⟩⟩,⟨c9,⟨⟩⟩⟩ ⟨_,h9⟩
  exact .pure ⟨c9,_,_,rfl,⟨by simp,by simp⟩,h9.mono (by omega)⟩
 ·rintro _ ⟨c',z,x,rfl,h1,h2⟩
  exact .pure ⟨h1,h2⟩
theorem zMd (z:TSign) (s:TSign) (l:List (List TLit)) (n:Int): ∀(k:Nat) (j:Int) (c:TCur) (out:List TLit),out.length+k<=10->j+1010*k<=140000->(∀x∈out,liD x)->Cu code j c->
  Okk (fun y=> ∃(c':TCur) (o:List TLit),y= .inl (c',z,s,l,n,o,())∧o.length=out.length+k∧(∀x∈o,liD x)∧Cu code (j+1010*k) c') (zcZ M c z s l n out (k:Int)):=by
 intro k
 induction k with
 | zero=>
  intro j c out ho hj hx hc;refine Okk.lift ?_ (zma _ _ _ _ _ _ _);simp only [zel,zh]
  exact Okk.iteF (by simp) (.pure ⟨c,out,rfl,rfl,hx,hc.mono (by omega)⟩)
 | succ k ih=>
  intro j c out ho hj hx hc;refine Okk.lift ?_ (zma _ _ _ _ _ _ _);simp only [zel,zh];refine Okk.iteT (by simp<;>omega) ?_;refine Okk.bind (zck hb hc 2 (by omega) (by omega)) ?_
  rintro ⟨⟨v,⟨⟩⟩,⟨c1,⟨⟩⟩⟩ ⟨v1,v2,h1⟩
  simp only [zh] at v1 v2 h1 ⊢;refine Okk.bind (zHo hb v (by omega) (by omega) h1) ?_
  rintro ⟨⟨x,⟨⟩⟩,⟨c2,⟨⟩⟩⟩ ⟨x1,h2⟩
  simp only [zh] at x1 h2 ⊢;refine Okk.iteT (by simp;omega) ?_;rw [w64 (x:=((k+1:Nat):Int)-1) (by omega) (by omega),show ((k+1:Nat):Int)-1=(k:Int) by omega];refine Okk.mono (ih (j+1010) c2 (out++ [x]) (by simp;omega) (by omega) ?_ (h2.mono (by omega))) ?_
  ·intro y hy;rcases qr.1 hy with h | h
   ·exact hx y h
   ·rw [qM.1 h];exact x1
  ·rintro _ ⟨c',o',rfl,q1,q2,q3⟩
   exact ⟨c',o',rfl,by rw [q1];simp;omega,q2,q3.mono (by omega)⟩
def clD (c:List TLit):Prop:=0<c.length∧c.length<=10∧ ∀x∈c,liD x
theorem zLg (z s:TSign): ∀(k:Nat) (j:Int) (c:TCur) (out:List (List TLit)),out.length+k<=10->j+3000*k<=100000->(∀x∈out,clD x)->Cu code j c->
  Okk (fun y=> ∃(c':TCur) (o:List (List TLit)),y= .inl (c',z,s,o,())∧o.length=out.length+k∧(∀x∈o,clD x)∧Cu code (j+3000*k) c') (zdM M c z s out (k:Int)):=by
 intro k
 induction k with
 | zero=>
  intro j c out ho hj hx hc;refine Okk.lift ?_ (znu _ _ _ _ _);simp only [zfK,zh]
  exact Okk.iteF (by simp) (.pure ⟨c,out,rfl,rfl,hx,hc.mono (by omega)⟩)
 | succ k ih=>
  intro j c out ho hj hx hc;refine Okk.lift ?_ (znu _ _ _ _ _);simp only [zfK,zh];refine Okk.iteT (by simp<;>omega) ?_;refine Okk.bind (zw1 hb hc [1,1,1,2,2] (by omega) (by simp) (by simp)) ?_
  rintro ⟨⟨v,⟨⟩⟩,⟨c1,⟨⟩⟩⟩ ⟨v1,h1⟩
  simp only [zh] at v1 h1 ⊢;obtain ⟨m,rfl,m1,m2⟩: ∃m:Nat,v=(m:Int)∧1<=m∧m<=2:=⟨v.toNat,by simp at v1;omega,by simp at v1;omega,by simp at v1;omega⟩;refine Okk.bind (zMd hb z s out ((k+1:Nat):Int) m (j+2) c1 [] (by simp;omega) (by omega) (by simp) h1) ?_
  rintro _ ⟨c2,d,rfl,d1,d2,h2⟩
  simp only [qd,zh];refine Okk.iteT (by simp;omega) ?_;rw [w64 (x:=((k+1:Nat):Int)-1) (by omega) (by omega),show ((k+1:Nat):Int)-1=(k:Int) by omega];refine Okk.mono (ih (j+3000) c2 (out++ [d]) (by simp;omega) (by omega) ?_ (h2.mono (by omega))) ?_
  ·intro y hy;rcases qr.1 hy with h | h
   ·exact hx y h
   ·rw [qM.1 h];simp only [qT,qJ] at d1;exact ⟨by omega,by omega,d2⟩
  ·rintro _ ⟨c',o',rfl,q1,q2,q3⟩
   exact ⟨c',o',rfl,by rw [q1];simp;omega,q2,q3.mono (by omega)⟩
theorem zHF {j:Int} (hj:j<=4000) {c:TCur} (hc:Cu code j c):Okk (fun r=>SgD r.1.1.1∧r.1.2.1.length<=10∧(∀y∈r.1.2.1,smC y)∧Cu code (j+90000) r.2.1) (zjg M c):=by
 refine Okk.lift ?_ (zxA c);simp only [zmC,zh];refine Okk.bind (zlp hb hc 20 (by omega) (by omega)) ?_
 rintro ⟨⟨b,⟨⟩⟩,⟨c1,⟨⟩⟩⟩ h1
 simp only [zh] at h1 ⊢;refine Okk.ite (fun _=>?_) fun _=>?_
 ·refine Okk.bind (zHJ hb (by omega) h1) ?_
  rintro ⟨⟨⟨a,⟨⟩⟩,⟨⟩⟩,⟨c2,⟨⟩⟩⟩ ⟨ha,h2⟩
  simp only [zh] at ha h2 ⊢;refine Okk.bind (zLT hb ha (by omega) h2) ?_
  rintro ⟨⟨o,⟨⟩⟩,⟨c3,⟨⟩⟩⟩ ⟨o1,o2,h3⟩
  simp only at o1;exact .pure ⟨ha,(by show o.length<=10;omega),o2,h3.mono (by omega)⟩
 ·refine Okk.bind (zck hb h1 4 (by omega) (by omega)) ?_
  rintro ⟨⟨n,⟨⟩⟩,⟨c2,⟨⟩⟩⟩ ⟨n1,n2,h2⟩
  simp only [zh] at n1 n2 h2 ⊢;rw [w64 (x:=1+n) (by omega) (by omega)];obtain ⟨m,em,m1,m2⟩: ∃m:Nat,1+n=(m:Int)∧1<=m∧m<=4:=⟨(1+n).toNat,by omega,by omega,by omega⟩;rw [em];refine Okk.bind (zLg hb ([],()) ([0,0,0,1,1],()) m (j+4) c2 [] (by simp;omega) (by omega) (by simp) (h2.mono (by omega))) ?_
  rintro _ ⟨c3,o,rfl,o1,o2,h3⟩
  simp only [qT,qJ] at o1;simp only [qd,zh];refine Okk.bind (P:=fun y=> ∃(c':TCur) (o':List (List TLit)),y= .inl (c',([],()),([0,0,0,1,1],()),o',())∧o'.length<=10∧(∀x∈o',smC x)∧Cu code (j+80000) c') ?_ ?_
  ·refine Okk.bind (zlp hb h3 3 (by omega) (by omega)) ?_
   rintro ⟨⟨b2,⟨⟩⟩,⟨c4,⟨⟩⟩⟩ h4
   simp only [zh] at h4 ⊢;refine Okk.ite (fun _=>?_) fun _=> .pure ⟨c4,o,rfl,by omega,fun x hx=>zsK (by have:=(o2 x hx).2.1;omega) (o2 x hx).2.2,h4.mono (by omega)⟩
   refine Okk.iteT (by omega) ?_;refine Okk.bind (Okk.get (l:=o) (i:=(0:Int).toNat) (by simp;omega)) ?_;intro x hx;have hx':=o2 x hx;refine Okk.bind (Okk.idx (l:=x) (i:=0) (by omega) (by have:=hx'.1;omega)) ?_;intro y hy;have hy':=hx'.2.2 y hy;refine Okk.iteT (by simp;omega) ?_;refine .pure ⟨c4,_,rfl,by simp;omega,fun w hw=>?_,h4.mono (by omega)⟩;rcases qr.1 hw with h | h
   ·exact zsK (by have:=(o2 w h).2.1;omega) (o2 w h).2.2
   ·rw [qM.1 h];exact zsK (by simp) (fun q hq=>by rw [qM.1 hq];exact hy')
  ·rintro _ ⟨c',o',rfl,q1,q2,q3⟩
   exact .pure ⟨sg5,q1,q2,q3.mono (by omega)⟩
end
theorem zfw (x lo hi:Int):z6 M x lo hi=some ((decide (lo<=x)&&decide (x<=hi),()),()):=by
 apply zFI;simp only [zwk,qt];by_cases h:x>=lo
 ·rw [qb h];simp [h]
 ·rw [qc h];simp;omega
theorem zEt (a:List Int) (lo up:Int) (ha:a.length<=17592186044416): ∀k i:Nat,i+k=a.length->zkq M lo up a a.length i=some (if (a.drop i).all (fun x=>decide (lo<=x)&&decide (x<=up))=true then .inl () else .inr ((false,()),())):=by
 intro k
 induction k with
 | zero=>
  intro i hi;obtain rfl:i=a.length:=by omega
  apply zvH
  simp [zmn]
 | succ k ih=>
  intro i hi;apply zvH;have h1:i<a.length:=by omega
  simp only [zmn];rw [qb (by simpa using h1),zd h1,zb (by omega)];simp only [qa,zfw,ih (i+1) (by omega)];rw [qj h1,qR];generalize (decide (lo<=a[i])&&decide (a[i]<=up))=b;cases b<;>rfl
theorem zGg (a:List Int) (lo hi:Int) (ha:a.length<=17592186044416):zjH M a lo hi=some ((a.all (fun x=>decide (lo<=x)&&decide (x<=hi)),()),()):=by
 apply zD2;simp only [zvx];have:=zEt a lo hi ha a.length 0 (by omega);rw [e0x] at this;rw [this,qk];cases a.all (fun x=>decide (lo<=x)&&decide (x<=hi))<;>simp
def gS (a:List Int):Bool:=decide (1<=a.length)&&(decide (a.length<=10)&&(a.all (fun x=>decide (0<=x)&&decide (x<=3))&&decide (a[0]?=some 0)))
theorem zig (s:TSign) (ha:s.1.length<=17592186044416):zfW M s=some ((gS s.1,()),()):=by
 apply zBp;simp only [zrv,zfw,zGg s.1 0 3 ha,qa,gS];rcases hs:s.1 with _ | ⟨x,r⟩
 ·simp
 ·rw [zEE];simp only [qD,List.getElem?_cons_zero,qa];by_cases h:r.length+1<=10
  ·rw [qb (by simp;omega)];cases (x::r).all (fun x=>decide (0<=x)&&decide (x<=3))<;>simp [h];rw [Bool.eq_iff_iff];simp
  ·rw [qc (by simp;omega)];simp [h]
theorem zKp (x:Int):zlo M x=some ((!(decide (0<=x)&&decide (x<=3)),()),()):=by
 apply zz2;simp only [zo3,qt];by_cases h:x<0
 ·rw [qb h];simp;omega
 ·rw [qc h];have h0:0<=x:=by omega
  rw [qp h0,Bool.true_and];by_cases h3:x<=3
  ·rw [qp h3,qA (by omega)];rfl
  ·rw [qA h3,qp (by omega)];rfl
theorem zEB (a:List Int) (ha:a.length<=17592186044416): ∀k i:Nat,i+k=a.length-> ∃r,zar M a () a.length i=some r∧(match r with | .inl _=>(a.drop i).all (fun x=>decide (0<=x)&&decide (x<=3))=true | .inr r=>0<=r.1.1∧(a.drop i).all (fun x=>decide (0<=x)&&decide (x<=3))=false):=by
 intro k
 induction k with
 | zero=>
  intro i hi;obtain rfl:i=a.length:=by omega
  refine ⟨.inl (),zb1 _ _ _ _ (by simp [zap]),by simp⟩
 | succ k ih=>
  intro i hi;have h1:i<a.length:=by omega
  obtain ⟨r,hr,hm⟩:=ih (i+1) (by omega);rw [qj h1,qR];by_cases hp:(decide (0<=a[i])&&decide (a[i]<=3))=true
  ·refine ⟨r,zb1 _ _ _ _ ?_,by rw [hp,Bool.true_and];exact hm⟩;simp only [zap];rw [qb (by simpa using h1),zd h1,zb (by omega)];simp only [qa,zKp,hp,qm,qg,qe];exact hr
  ·rw [Bool.not_eq_true] at hp;refine ⟨.inr (((i:Int),()),()),zb1 _ _ _ _ ?_,Int.natCast_nonneg i,by rw [hp,Bool.false_and]⟩;simp only [zap];rw [qb (by simpa using h1),zd h1];simp only [qa,zKp,hp,qO,qf]
theorem zEq (a:List Int) (ha:a.length<=17592186044416):za9 M a ()=some ((!(a.all (fun x=>decide (0<=x)&&decide (x<=3))),()),()):=by
 apply zkd;simp only [zb7];obtain ⟨r,hr,hm⟩:=zEB a ha a.length 0 (by omega);rw [e0x] at hr;rw [qk] at hm
 cases r with
 | inl r=>
  rw [ze0 a () (r:=((-1,()),())) (by simp only [zbp,hr,qa,qd])];simp only at hm
  simp [hm]
 | inr r=>
  rw [ze0 a () (r:=r) (by simp only [zbp,hr,qa,qF])];simp only at hm;simp [hm]
theorem zku (s:TSign) (ha:s.1.length<=17592186044416):zen M s=some ((gS s.1,()),()):=by
 apply zBc;simp only [zq7,zEq s.1 ha,qa,gS,qt];rcases hs:s.1 with _ | ⟨x,r⟩
 ·simp
 ·rw [zEE];simp only [qD,List.getElem?_cons_zero,qa];rw [qc (by omega)];by_cases h:r.length+1<=10
  ·rw [qc (by omega)];by_cases hx:x=0
   ·subst hx;simp [h]
   ·rw [qb (by simpa using hx)];simp [hx]
  ·rw [qb (by omega)];simp [h]
theorem za (x:TSign):(x.1,())=x:=rfl
theorem zg (x:TLit):(x.1,x.2.1,x.2.2.1,())=x:=rfl
theorem zC (x:TSign):(x.1,())=x:=rfl
def ar (a:List Int) (n:Int):Int:=if n<0 then 0 else (a[n.toNat]?).getD 0
def badN (a:List Int) (n:Int):Prop:=n< -12∨(a.length:Int)<=n
instance (a:List Int) (n:Int):Decidable (badN a n):=inferInstanceAs (Decidable (_∨_))
def sE (a:List Int):Int->List Int->Option (List Int)
 | k,[]=>if k<=0 then some [] else none
 | k,n::t=>if k<=0 then some (n::t) else if badN a n then none else sE a (k-1+ar a n) t
theorem zsX {a:List Int} (hg:gS a=true) (n:Int):0<=ar a n∧ar a n<=3:=by
 unfold ar;split
 ·omega
 ·cases h:a[n.toNat]? with
  | none=>simp
  | some x=>
   simp only [gS,qq,List.all_eq_true,qt] at hg;have:=hg.2.2.1 x (List.mem_of_getElem? h);simpa using this
theorem zIj {a:List Int} {n:Int} (h: ¬badN a n) (h0: ¬n<0):idx a n=some (ar a n):=by
 unfold badN at h;have h1:n.toNat<a.length:=by omega
 unfold ar idx;rw [qb (by omega),qc h0,qu h1];rfl
theorem zwY (a:List Int) (t:List Int):sE a 0 t=some t:=by cases t<;>simp [sE]
theorem zyH {a:List Int} (hg:gS a=true): ∀(u:List Int) (j k:Int) (x:List Int),0<=j->0<=k->sE a j u=some []->sE a (j+k) (u++x)=sE a k x:=by
 intro u
 induction u with
 | nil=>
  intro j k x hj hk h;simp only [sE] at h;split at h
  ·obtain rfl:j=0:=by omega
   simp
  ·cases h
 | cons n u ih=>
  intro j k x hj hk h;simp only [sE] at h;split at h
  ·cases h
  ·rename_i hj';split at h
   ·cases h
   ·rename_i hb;have hn:=zsX hg n;rw [qZ]
    conv=>lhs;unfold sE
    rw [qc (by omega),qc hb];have:=ih (j-1+ar a n) k x (by omega) hk h;rw [<-this];congr 1;omega
theorem zA5 {a:List Int} (hg:gS a=true): ∀(t:List Int) (j k:Int) (r:List Int),0<=j->0<=k->sE a (j+k) t=some r-> ∃u x,t=u++x∧sE a j u=some []∧sE a k x=some r:=by
 intro t
 induction t with
 | nil=>
  intro j k r hj hk h;simp only [sE] at h;split at h
  ·obtain rfl:j=0:=by omega
   obtain rfl:k=0:=by omega
   exact ⟨[],[],rfl,by simp [sE],by simpa [sE] using h⟩
  ·cases h
 | cons n t ih=>
  intro j k r hj hk h;by_cases h0:j=0
  ·subst h0;exact ⟨[],n::t,rfl,by simp [sE],by simpa using h⟩
  ·simp only [sE] at h;split at h
   ·omega
   ·split at h
    ·cases h
    ·rename_i hb;have hn:=zsX hg n;obtain ⟨u,x,rfl,h1,h2⟩:=ih (j-1+ar a n) k r (by omega) hk (by rw [<-h];congr 1;omega);refine ⟨n::u,x,rfl,?_,h2⟩;unfold sE;rw [qc (by omega),qc hb];exact h1
abbrev Tm (a:List Int) (u:List Int):Prop:=sE a 1 u=some []
theorem zLz {a:List Int} (hg:gS a=true): ∀(k:Nat) (t r:List Int),sE a k t=some r-> ∃us:List (List Int),us.length=k∧t=us.flatten++r∧ ∀u∈us,Tm a u:=by
 intro k
 induction k with
 | zero=>
  intro t r h;rw [e0x,zwY] at h;obtain rfl:=qh h
  exact ⟨[],rfl,rfl,by simp⟩
 | succ k ih=>
  intro t r h;obtain ⟨u,x,rfl,h1,h2⟩:=zA5 hg t 1 k r (by omega) (by omega) (by rw [<-h];congr 1;omega);obtain ⟨us,hl,rfl,hu⟩:=ih x r h2;exact ⟨u::us,by simp [hl],by simp,by simpa using ⟨h1,hu⟩⟩
theorem Tm.parts {a:List Int} (hg:gS a=true) {u:List Int} (h:Tm a u): ∃(n:Int) (us:List (List Int)),u=n::us.flatten∧ ¬badN a n∧(us.length:Int)=ar a n∧ ∀v∈us,Tm a v:=by
 cases u with
 | nil=>simp [Tm,sE] at h
 | cons n t=>
  simp only [Tm,sE] at h;rw [qc (by omega)] at h;split at h
  ·cases h
  ·rename_i hb;have hn:=zsX hg n;obtain ⟨us,hl,ht,hu⟩:=zLz hg (ar a n).toNat t [] (by rw [<-h];congr 1;omega);exact ⟨n,us,by rw [ht];simp,hb,by omega,hu⟩
theorem Tm.rest {a:List Int} (hg:gS a=true) {u:List Int} (h:Tm a u) (x:List Int):sE a 1 (u++x)=some x:=by
 have:=zyH hg u 1 0 x (by omega) (by omega) h;rw [zwY] at this;simpa using this
theorem Tm.pos {a u:List Int} (h:Tm a u):0<u.length:=by
 cases u with
 | nil=>simp [Tm,sE] at h
 | cons n t=>simp
theorem zD7 (s:TSign) (hg:gS s.1=true) (t:List Int) (ht:t.length<=1048576): ∀(k i:Nat) (need:Int),i+k=t.length->0<=need->need+3*k<=4000000->
  zhW M t i s need=some (match sE s.1 need (t.drop i) with | none=> .inr (((-1:Int),()),()) | some r=> .inl ((t.length:Int)-r.length,())):=by
 have hs:s.1.length<=10:=by simp only [gS,qq,qt] at hg;exact hg.2.1
 intro k
 induction k with
 | zero=>
  intro i need hi h0 hn;obtain rfl:i=t.length:=by omega
  apply zdC;simp only [zcn,qG,sE,qt];by_cases h:need>0
  ·rw [qb h,qb (by omega),qc (by omega)]
  ·rw [qc h,qb (by omega)];simp
 | succ k ih=>
  intro i need hi h0 hn;apply zdC;have h1:i<t.length:=by omega
  rw [qj h1];simp only [zcn,sE,qt];by_cases h:need>0
  ·rw [qb h,qc (by omega),qc (by omega),zd h1];simp only [qa,zfw];rw [w64 (x:=(s.1.length:Int)-1) (by omega) (by omega)];by_cases hb:badN s.1 t[i]
   ·rw [qb hb,qb (by unfold badN at hb;simp;omega)]
   ·rw [qc hb,qc (by unfold badN at hb;simp;omega)];have ha:=zsX hg t[i];have hw:IntKind.i64.wrap (need-1)=need-1:=w64 (by omega) (by omega);by_cases hx:t[i]>=0
    ·rw [qb hx,zIj hb (by omega),hw];simp only [qa,qd];rw [w64 (x:=need-1+_) (by omega) (by omega),zb (by omega)];exact ih (i+1) _ (by omega) (by omega) (by omega)
    ·have:ar s.1 t[i]=0:=by unfold ar;rw [qb (by omega)]
     rw [qc hx,hw,this];simp only [qa,qd];rw [zb (by omega),Int.add_zero];exact ih (i+1) _ (by omega) (by omega) (by omega)
  ·rw [qc h,qb (by omega)];simp only [qD,List.length_drop];congr 3;omega
theorem zB9 (s:TSign) (hg:gS s.1=true) (t:List Int) (i:Nat) (hi:i<=t.length) (ht:t.length<=1048576):
  zjL M s t i=some ((match sE s.1 1 (t.drop i) with | none=>(-1:Int) | some r=>(t.length:Int)-r.length,()),()):=by
 apply zu7;simp only [zn6];rw [zD7 s hg t ht (t.length-i) i 1 (by omega) (by omega) (by omega)];cases sE s.1 1 (t.drop i)<;>rfl
theorem zLU {a:List Int}: ∀(t:List Int) (k:Int) (r:List Int),sE a k t=some r->r.length<=t.length:=by
 intro t
 induction t with
 | nil=>intro k r h;simp only [sE] at h;split at h<;>simp_all
 | cons n t ih=>
  intro k r h;simp only [sE] at h;split at h
  ·obtain rfl:=qh h;simp
  ·split at h
   ·cases h
   ·have:=ih _ _ h;simp;omega
def isT (a t:List Int):Bool:=decide (t.length<=40)&&decide (Tm a t)
theorem zsv (s:TSign) (hg:gS s.1=true) (t:List Int) (ht:t.length<=1048576):zdV M s t=some ((isT s.1 t,()),()):=by
 apply zue;have:=zB9 s hg t 0 (by omega) ht;rw [e0x,qk] at this;simp only [zmV,zfw,qa,this,isT];by_cases h0:t= []
 ·subst h0;simp [Tm,sE]
 ·have:0<t.length:=qX.2 h0;by_cases h:t.length<=40
  ·rw [qb (by simp;omega)];simp only [qI,qU,and_true];rw [Bool.eq_iff_iff];simp only [qq,qt,Tm,beq_iff_eq]
   cases hE:sE s.1 1 t with
   | none=>simp
   | some r=>
    have:=zLU _ _ _ hE;simp only [qI];constructor
    ·intro h';exact ⟨h,List.eq_nil_of_length_eq_zero (by omega)⟩
    ·rintro ⟨-,rfl⟩;simp
  ·rw [qc (by simp;omega)];simp [h]
theorem zD9 (s:TSign) (n:Int) (h: ¬badN s.1 n):ze5 M s n=some ((ar s.1 n,()),()):=by
 apply zAv;simp only [zp5,qt];by_cases hn:n<0
 ·rw [qb hn];simp [ar,hn]
 ·rw [qc hn,zIj h hn];rfl
theorem zDX (s:TSign) (hg:gS s.1=true) (t:List Int) (ht:t.length<=40): ∀(k i:Nat) (left:Int),i+k=t.length->0<=left->left+3*k<=4000000->
  ∃r,zcq M s left t t.length i=some r∧Sum.elim (fun y=>y.1==0) (fun r=>r.1.1) r=decide (sE s.1 left (t.drop i)=some []):=by
 intro k
 induction k with
 | zero=>
  intro i left hi h0 hn;obtain rfl:i=t.length:=by omega
  refine ⟨.inl (left,()),zoR _ _ _ _ _ ?_,?_⟩
  ·simp [zgD]
  ·rw [qG];simp only [qd,sE]
   rw [Bool.eq_iff_iff];simp;omega
 | succ k ih=>
  intro i left hi h0 hn;have h1:i<t.length:=by omega
  rw [qj h1]
  have pre: ∀r,(if (left==0)=true then some (.inr ((false,()),())) else if decide (t[i]< -12)=true then some (.inr ((false,()),())) else if decide (t[i]>=(s.1.length:Int))=true then some (.inr ((false,()),())) else (ze5 M (s.1,()) t[i]).bind fun r2=>zcq M (s.1,()) (IntKind.i64.wrap (left+IntKind.i64.wrap (r2.1.1-1))) t t.length (IntKind.i64.wrap ((i:Int)+1)))=some r->zcq M s left t t.length i=some r:=by
   intro r hr;apply zoR;simp only [zgD];rw [qb (by simpa using h1),zd h1];exact hr
  by_cases hl:left=0
  ·subst hl;refine ⟨.inr ((false,()),()),pre _ rfl,(qA (by rw [zwY];exact fun h=>by cases h)).symm⟩
  ·by_cases hb:badN s.1 t[i]
   ·refine ⟨.inr ((false,()),()),pre _ ?_,by simp [sE,hb];omega⟩;rw [qc (by simpa using hl)];unfold badN at hb;by_cases h2:t[i]< -12
    ·rw [qb (by simpa using h2)]
    ·rw [qc (by simpa using h2),qb (by simp;omega)]
   ·have ha:=zsX hg t[i];obtain ⟨r,hr,hm⟩:=ih (i+1) (left-1+ar s.1 t[i]) (by omega) (by omega) (by omega);refine ⟨r,pre _ ?_,?_⟩
    ·have hb':=hb;unfold badN at hb';rw [qc (by simpa using hl),qc (by simp;omega),qc (by simp;omega),zD9 (s.1,()) _ hb];simp only [qa];rw [w64 (x:=ar s.1 t[i]-1) (by omega) (by omega),w64 (by omega) (by omega),zb (by omega),show left+(ar s.1 t[i]-1)=left-1+ar s.1 t[i] by omega];exact hr
    ·rw [hm]
     conv=>rhs;unfold sE
     rw [qc (by omega),qc hb]
theorem zA1 (s:TSign) (hg:gS s.1=true) (t:List Int):zfE M s t=some ((isT s.1 t,()),()):=by
 apply zyP;simp only [zoq,qt,isT];by_cases h:t.length<=40
 ·obtain ⟨r,hr,hm⟩:=zDX s hg t h t.length 0 1 (by omega) (by omega) (by omega);rw [e0x] at hr;rw [qk] at hm;rw [qc (by omega),show ((s.1,()):TSign)=s from rfl,hr]
  cases r with
  | inl r=>simp only [qd,qa] at hm ⊢; rw [hm];simp [h,Tm]
  | inr r=>obtain ⟨⟨b,_⟩,_⟩:=r;simp only [qF,qa] at hm ⊢; rw [hm];simp [h,Tm]
 ·rw [qb (by omega)];simp [h]
def rp (σ:Int->List Int) (n:Int):List Int:=if n<0∧0<(σ (-1-n)).length then σ (-1-n) else [n]
def apS (σ:Int->List Int) (T:List Int):List Int:=T.flatMap (rp σ)
theorem zIF {σ:Int->List Int} (h: ∀v,(σ v).length<=60) (n:Int):(rp σ n).length<=60:=by
 unfold rp;split
 ·exact h _
 ·simp
theorem zkp {σ:Int->List Int} (h: ∀v,(σ v).length<=60): ∀T:List Int,(apS σ T).length<=60*T.length
 | []=>by simp [apS]
 | n::T=>by
  have h1:=zIF h n;have h2:=zkp h T;simp only [apS,List.flatMap_cons,qL,qD] at h2 ⊢;omega
theorem zdg (σ:Int->List Int) (n:Int) (t:List Int):apS σ (n::t)=rp σ n++apS σ t:=by simp only [apS,List.flatMap_cons]
theorem zkP (σ:Int->List Int) (t u:List Int):apS σ (t++u)=apS σ t++apS σ u:=by simp only [apS,List.flatMap_append]
theorem zmM {σ:Int->List Int} {n:Int} (h:0<=n):rp σ n= [n]:=by unfold rp;rw [qc (fun q=>by omega)]
theorem zqO {σ:Int->List Int} {n:Int} (h:σ (-1-n)= []):rp σ n= [n]:=by unfold rp;rw [qc (fun q=>by rw [h] at q;simp at q)]
theorem zis {σ:Int->List Int} {n:Int} (hn:n<0) (h:σ (-1-n)≠ []):rp σ n=σ (-1-n):=by unfold rp;rw [qb ⟨hn,qX.2 h⟩]
theorem zL6 {a:List Int} (hg:gS a=true) {σ:Int->List Int} (hσ: ∀v,σ v≠ []->Tm a (σ v)): ∀(t:List Int) (k:Int),sE a k t=some []->sE a k (apS σ t)=some []:=by
 intro t
 induction t with
 | nil=>intro k h;exact h
 | cons n r ih=>
  intro k h;rw [zdg];by_cases hk:k<=0
  ·simp only [sE,qb hk] at h;cases h
  ·simp only [sE,qc hk] at h;by_cases hb:badN a n
   ·rw [qb hb] at h;cases h
   ·rw [qc hb] at h;by_cases hs:n<0∧σ (-1-n)≠ []
    ·rw [zis hs.1 hs.2];have h1:ar a n=0:=by unfold ar;rw [qb hs.1]
     rw [h1] at h;have hT:sE a 1 (σ (-1-n))=some []:=hσ _ hs.2;have:=zyH hg (σ (-1-n)) 1 (k-1) (apS σ r) (by omega) (by omega) hT;rw [show 1+(k-1)=k by omega] at this;rw [this];exact ih _ (by rw [show k-1=k-1+0 by omega];exact h)
    ·have hr:rp σ n= [n]:=by
      by_cases hn:n<0
      ·exact zqO (by
        by_cases e:σ (-1-n)= []
        ·exact e
        ·exact absurd ⟨hn,e⟩ hs)
      ·exact zmM (by omega)
     rw [hr,List.singleton_append];simp only [sE,qc hk,qc hb];exact ih _ h
theorem zkt {a:List Int} (hg:gS a=true) {σ:Int->List Int} (hσ: ∀v,σ v≠ []->Tm a (σ v)) {t:List Int} (h:Tm a t):Tm a (apS σ t):=zL6 hg hσ t 1 h
theorem zyS {a:List Int} (hg:gS a=true) {x z:List Int} (h:Tm a x) (k:Tm a (x++z)):z= []:=by
 have:=zyH hg x 1 0 z (by omega) (by omega) h;rw [show (1:Int)+0=1 from rfl,zwY] at this;have k':sE a 1 (x++z)=some []:=k;rw [k'] at this;exact (qh this).symm
def lcp:List Int->List Int->Nat
 | n::x,m::y=>if n=m then lcp x y+1 else 0
 | _,_=>0
theorem zBk: ∀(x y:List Int),lcp x y<=x.length∧lcp x y<=y.length
 | [],_=>by simp [lcp]
 | _::_,[]=>by simp [lcp]
 | n::x,m::y=>by
  have:=zBk x y;simp only [lcp,qD];split<;>omega
theorem zFj: ∀(x y:List Int),x.take (lcp x y)=y.take (lcp x y)
 | [],y=>by simp [lcp]
 | _::_,[]=>by simp [lcp]
 | n::x,m::y=>by
  simp only [lcp];split
  ·rename_i h;rw [h,List.take_succ_cons,List.take_succ_cons,zFj x y]
  ·simp
theorem zBO: ∀(x y:List Int) (h1:lcp x y<x.length) (h2:lcp x y<y.length),x[lcp x y]≠y[lcp x y]
 | [],_,h,_=>by simp at h
 | _::_,[],_,h=>by simp at h
 | n::x,m::y,h1,h2=>by
  by_cases e:n=m
  ·have e1:lcp (n::x) (m::y)=lcp x y+1:=by simp only [lcp,qb e]
   simp only [e1] at h1 h2 ⊢;simpa using zBO x y (by simpa using h1) (by simpa using h2)
  ·have e1:lcp (n::x) (m::y)=0:=by simp only [lcp,qc e]
   simp only [e1];simpa using e
theorem zCv: ∀(x y:List Int) (i:Nat),i<lcp x y->x[i]?=y[i]?
 | [],_,_,h=>by simp [lcp] at h
 | _::_,[],_,h=>by simp [lcp] at h
 | n::x,m::y,i,h=>by
  simp only [lcp] at h;split at h
  ·rename_i e
   cases i with
   | zero=>simp [e]
   | succ i=>simpa using zCv x y i (by omega)
  ·omega
theorem zGm {a:List Int} (hg:gS a=true) {x y:List Int} (hx:Tm a x) (hy:Tm a y) (h:lcp x y=x.length∨lcp x y=y.length):x=y:=by
 have ht:=zFj x y;rcases h with h | h
 ·rw [h,List.take_length] at ht
  have e:y=x++y.drop x.length:=by
   conv=>lhs;rw [<-wa x.length y]
   rw [<-ht]
  have:=zyS hg hx (by rw [<-e];exact hy);rw [e,this,qP]
 ·rw [h,List.take_length] at ht
  have e:x=y++x.drop y.length:=by
   conv=>lhs;rw [<-wa y.length x]
   rw [ht]
  have:=zyS hg hy (by rw [<-e];exact hx);rw [e,this,qP]
def SubF (sub:List (List Int)) (σ:Int->List Int):Prop:=sub.length=12∧ ∀v,0<=v->v<=11->sub[v.toNat]?=some (σ v)
theorem SubF.idx {sub:List (List Int)} {σ:Int->List Int} (h:SubF sub σ) {v:Int} (v0:0<=v) (v1:v<=11):idx sub v=some (σ v):=by
 have:=h.2 v v0 v1;obtain ⟨q1,q2⟩:=qW.1 this;have e:=zd (xs:=sub) q1;rw [show ((v.toNat:Nat):Int)=v by omega,q2] at e;exact e
theorem zGi {σ:Int->List Int} (h: ∀v,(σ v).length<=100000) (n:Int):(rp σ n).length<=100000:=by
 unfold rp;split
 ·exact h _
 ·simp
theorem zDN (sub:List (List Int)) (σ:Int->List Int) (hσ:SubF sub σ) (hb: ∀v,(σ v).length<=100000) (T:List Int) (hT:T.length<=100) (hv: ∀n∈T,-12<=n):
  ∀k i:Nat,i+k=T.length-> ∀o:List Int,o.length<=100000*i->zgx M sub o T T.length i=some (.inl (o++apS σ (T.drop i),())):=by
 intro k
 induction k with
 | zero=>
  intro i hi o ho;obtain rfl:i=T.length:=by omega
  apply ztm;simp only [zkS];rw [qc (by simp)]
  simp [apS]
 | succ k ih=>
  intro i hi o ho;have h1:i<T.length:=by omega
  have h2:=hv _ (qi h1);have h3:=zGi hb T[i];have h4:=hb (-1-T[i]);have hs:apS σ (T.drop i)=rp σ T[i]++apS σ (T.drop (i+1)):=by rw [qj h1];simp only [apS,List.flatMap_cons]
  have go: ∀x:List Int,rp σ T[i]=x->zgx M sub (o++x) T T.length ((i+1:Nat):Int)=some (.inl (o++apS σ (T.drop i),())):=by
   intro x hx;subst hx;rw [ih (i+1) (by omega) _ (by simp;omega),hs,qE]
  apply ztm;simp only [zkS];rw [qb (by simpa using h1),zd h1];simp only [qa];by_cases hn:T[i]<0
  ·rw [qb (by simpa using hn),w64 (x:= -1-T[i]) (by omega) (by omega),hσ.idx (by omega) (by omega)];simp only [qa];by_cases hl:0<(σ (-1-T[i])).length
   ·rw [qb (by simp;omega),qb (by omega)];simp only [qa,qd];rw [zb (by omega)];exact go _ (by unfold rp;rw [qb ⟨hn,hl⟩])
   ·rw [qc (by simp only [qt];omega),qb (by simp;omega)];simp only [qa,qd];rw [zb (by omega)];exact go _ (by unfold rp;rw [qc (fun q=>hl q.2)])
  ·rw [qc (by simpa using hn),qb (by simp;omega)];simp only [qa,qd];rw [zb (by omega)];exact go _ (by unfold rp;rw [qc (fun q=>hn q.1)])
theorem zfZ (sub:List (List Int)) (σ:Int->List Int) (hσ:SubF sub σ) (hb: ∀v,(σ v).length<=100000) (T:List Int) (hT:T.length<=100) (hv: ∀n∈T,-12<=n):zA M sub T=some ((apS σ T,()),()):=by
 apply zCw;have:=zDN sub σ hσ hb T hT hv T.length 0 (by omega) [] (by simp);rw [e0x,qk,qC] at this;simp only [zsM,this,qa,qd]
def oneS (n:Int) (t:List Int):Int->List Int:=fun u=>if u= -1-n then t else []
def bindS (σ:Int->List Int) (n:Int) (t:List Int):Int->List Int:=fun u=>if u= -1-n then t else if σ u≠ [] then apS (oneS n t) (σ u) else []
def Free (σ:Int->List Int) (x:List Int):Prop:= ∀m∈x,m<0->σ (-1-m)= []
theorem zMF (σ:Int->List Int) (n:Int):rp σ n≠ []:=by
 unfold rp;split
 ·rename_i h;exact qX.1 h.2
 ·simp
theorem zEL (σ:Int->List Int) {t:List Int} (h:t≠ []):apS σ t≠ []:=by
 cases t with
 | nil=>exact absurd rfl h
 | cons n r=>
  rw [zdg];have:=zMF σ n
  cases hr:rp σ n with
  | nil=>exact absurd hr this
  | cons _ _=>simp
theorem zAu {σ:Int->List Int}: ∀ {x:List Int},Free σ x->apS σ x=x
 | [],_=>rfl
 | n::x,h=>by
  rw [zdg,zAu (fun m hm=>h m (qn _ hm))]
  have:rp σ n= [n]:=by
   by_cases hn:n<0
   ·exact zqO (h n (qv ..) hn)
   ·exact zmM (by omega)
  rw [this];rfl
theorem zEw (n k:Int) (t:List Int) (hn:n<0) (ht:t≠ []):rp (oneS n t) k=if k=n then t else [k]:=by
 by_cases h:k=n
 ·subst h;rw [qb rfl,zis hn (by unfold oneS;rw [qb rfl];exact ht)];unfold oneS;rw [qb rfl]
 ·rw [qc h];exact zqO (by unfold oneS;rw [qc (by omega)])
theorem zF4 {n m:Int} {t:List Int} (hn:n<0) (ht:t≠ []): ∀ {x:List Int},m∈apS (oneS n t) x->(m∈x∧m≠n)∨m∈t
 | [],h=>by cases h
 | k::x,h=>by
  rw [zdg,zEw n k t hn ht,qr] at h;rcases h with h | h
  ·split at h
   ·exact .inr h
   ·rename_i hk;rw [qM.1 h];exact .inl ⟨qv ..,hk⟩
  ·rcases zF4 hn ht h with ⟨h1,h2⟩ | h1
   ·exact .inl ⟨qn _ h1,h2⟩
   ·exact .inr h1
section
variable {σ : Int -> List Int} {n : Int} {t : List Int} (hn : n < 0) (ht : t ≠ []) (hb : σ (-1 - n) = [])
include hn ht hb
theorem zAX: ∀x:List Int,apS (bindS σ n t) x=apS (oneS n t) (apS σ x)
 | []=>rfl
 | k::x=>by
  rw [zdg,zdg,zkP,zAX x];congr 1;by_cases hk:k<0
  ·by_cases e:k=n
   ·subst e;rw [zqO hb,zis hk (by unfold bindS;rw [qb rfl];exact ht)];show bindS σ k t (-1-k)=apS (oneS k t) [k];rw [zdg,zEw k k t hn ht,qb rfl];unfold bindS;rw [qb rfl];simp [apS]
   ·by_cases hs:σ (-1-k)= []
    ·rw [zqO hs,zqO (by unfold bindS;rw [qc (by omega),qc (by simpa using hs)]),zdg,zEw n k t hn ht,qc e];rfl
    ·have hbs:bindS σ n t (-1-k)=apS (oneS n t) (σ (-1-k)):=by unfold bindS;rw [qc (by omega),qb hs]
     rw [zis hk hs,zis hk (by rw [hbs];exact zEL _ hs),hbs]
  ·rw [zmM (by omega),zmM (by omega),zdg,zmM (by omega)];rfl
omit hb in
theorem Free.bind {x:List Int} (hx:Free σ x) (hf:Free σ t) (hnt:n∉t):Free (bindS σ n t) (apS (oneS n t) x):=by
 intro m hm h0;rcases zF4 hn ht hm with ⟨h1,h2⟩ | h1
 ·unfold bindS;rw [qc (by omega),qc (by simpa using hx m h1 h0)]
 ·have h2:m≠n:=fun e=>hnt (e▸h1)
  unfold bindS;rw [qc (by omega),qc (by simpa using hf m h1 h0)]
omit hb in
theorem zIq (hi: ∀u,Free σ (σ u)) (hf:Free σ t) (hnt:n∉t): ∀u,Free (bindS σ n t) (bindS σ n t u):=by
 intro u
 have htt:apS (oneS n t) t=t:=zAu (fun m hm h0=>by
  unfold oneS;rw [qc (fun e=>hnt (by rw [show n=m by omega];exact hm))])
 have key:=Free.bind hn ht hf hf hnt;rw [htt] at key;by_cases e:u= -1-n
 ·have:bindS σ n t u=t:=by unfold bindS;rw [qb e]
  rw [this];exact key
 ·by_cases hs:σ u= []
  ·have:bindS σ n t u= []:=by unfold bindS;rw [qc e,qc (by simpa using hs)]
   rw [this];intro m hm;cases hm
  ·have:bindS σ n t u=apS (oneS n t) (σ u):=by unfold bindS;rw [qc e,qb hs]
   rw [this];exact Free.bind hn ht (hi u) hf hnt
end
theorem zLw {a:List Int} {n:Int} {t:List Int} (h:Tm a t): ∀v,oneS n t v≠ []->Tm a (oneS n t v):=by
 intro v hv;unfold oneS at hv ⊢;split
 ·exact h
 ·rename_i e;rw [qc e] at hv;exact absurd rfl hv
theorem zJj {a:List Int} (hg:gS a=true) {σ:Int->List Int} {n:Int} {t:List Int} (hσ: ∀v,σ v≠ []->Tm a (σ v)) (h:Tm a t): ∀v,bindS σ n t v≠ []->Tm a (bindS σ n t v):=by
 intro v hv;unfold bindS at hv ⊢;split
 ·exact h
 ·rename_i e;rw [qc e] at hv;split
  ·rename_i hs;exact zkt hg (zLw h) (hσ v hs)
  ·rename_i hs;rw [qc hs] at hv;exact absurd rfl hv
def nbound (σ:Int->List Int):Nat:=((List.range 12).filter fun u:Nat=> !(σ (u:Int)).isEmpty).length
theorem zC1 (σ:Int->List Int):nbound σ<=12:=by
 unfold nbound;exact Nat.le_trans (List.length_filter_le _ _) (by simp)
theorem zFL {σ:Int->List Int} {n:Int} {t:List Int} (hn:n<0) (h12: -12<=n) (ht:t≠ []) (hb:σ (-1-n)= []):nbound σ<nbound (bindS σ n t):=by
 unfold nbound
 have hmono: ∀u:Nat,(!(σ (u:Int)).isEmpty)=true->(!(bindS σ n t (u:Int)).isEmpty)=true:=by
  intro u hu;simp only [Bool.not_eq_true',List.isEmpty_eq_false_iff] at hu ⊢;unfold bindS;split
  ·exact ht
  ·first
   | exact zEL _ hu
   | (rw [qb hu];exact zEL _ hu)
 have gen: ∀(l:List Nat) (w:Nat),w∈l->(σ (w:Int))= []->bindS σ n t (w:Int)≠ []->(l.filter fun u:Nat=> !(σ (u:Int)).isEmpty).length<(l.filter fun u:Nat=> !(bindS σ n t (u:Int)).isEmpty).length:=by
  intro l
  induction l with
  | nil=>intro w hw;cases hw
  | cons u r ih=>
   intro w hw h1 h2
   have hle: ∀l:List Nat,(l.filter fun u:Nat=> !(σ (u:Int)).isEmpty).length<=(l.filter fun u:Nat=> !(bindS σ n t (u:Int)).isEmpty).length:=by
    intro l
    induction l with
    | nil=>simp
    | cons v q ihq=>
     simp only [List.filter_cons];by_cases hv:(!(σ (v:Int)).isEmpty)=true
     ·rw [qb hv,qb (hmono v hv)];simp;exact ihq
     ·rw [qc hv];split
      ·simp;omega
      ·exact ihq
   simp only [List.filter_cons];rcases qz.1 hw with rfl | hw
   ·rw [qc (by simp [h1]),qb (by simpa using h2)];have:=hle r;simp;omega
   ·have hr:=ih w hw h1 h2;by_cases hv:(!(σ (u:Int)).isEmpty)=true
    ·rw [qb hv,qb (hmono u hv)];simp;exact hr
    ·rw [qc hv];split
     ·simp;omega
     ·exact hr
 refine gen _ (-1-n).toNat (by simp;omega) ?_ ?_
 ·rw [show (((-1-n).toNat:Nat):Int)= -1-n by omega];exact hb
 ·rw [show (((-1-n).toNat:Nat):Int)= -1-n by omega];unfold bindS;rw [qb rfl];exact ht
theorem zEf (a:List Int) (x:Int) (ha:a.length<=17592186044416): ∀k i:Nat,i+k=a.length-> ∃r,zdo M a x a.length i=some r∧(match r with | .inl _=>x∉a.drop i | .inr r=>0<=r.1.1∧x∈a.drop i):=by
 intro k
 induction k with
 | zero=>
  intro i hi;obtain rfl:i=a.length:=by omega
  exact ⟨.inl (),zio _ _ _ _ (by simp [zc0]),by simp⟩
 | succ k ih=>
  intro i hi;have h1:i<a.length:=by omega
  obtain ⟨r,hr,hm⟩:=ih (i+1) (by omega);rw [qj h1];by_cases hx:x=a[i]
  ·refine ⟨.inr (((i:Int),()),()),zio _ _ _ _ ?_,Int.natCast_nonneg i,hx▸qv⟩;simp only [zc0];rw [qb (by simpa using h1),zd h1];simp only [qa];rw [qb (by simpa using hx)]
  ·refine ⟨r,zio _ _ _ _ ?_,?_⟩
   ·simp only [zc0];rw [qb (by simpa using h1),zd h1];simp only [qa];rw [qc (by simpa using hx),zb (by omega)];exact hr
   ·cases r with
    | inl r=>simp only [qz,not_or];exact ⟨hx,hm⟩
    | inr r=>exact ⟨hm.1,qn _ hm.2⟩
theorem zuS (a:List Int) (x:Int) (ha:a.length<=17592186044416):zbJ M a x=some ((decide (x∈a),()),()):=by
 obtain ⟨r,hr,hm⟩:=zEf a x ha a.length 0 (by omega);rw [e0x] at hr;rw [qk] at hm;apply zuI
 cases r with
 | inl r=>
  rw [zfI,zpG a x (r:=((-1,()),())) (by simp only [zhs,hr,qa,qd])];have:decide (x∈a)=false:=by simpa using hm
  rw [this];rfl
 | inr r=>
  rw [zfI,zpG a x (r:=r) (by simp only [zhs,hr,qa,qF])];have:decide (x∈a)=true:=by simpa using hm.2
  rw [this];simp [hm.1]
def Up (l:List Int):Prop:=l.Pairwise (· < ·)
theorem Up.ext {l k:List Int} (hl:Up l) (hk:Up k) (h: ∀x,x∈l↔x∈k):l=k:=by
 induction l generalizing k with
 | nil=>
  cases k with
  | nil=>rfl
  | cons y k=>exact absurd ((h y).2 (by simp)) (by simp)
 | cons x l ih=>
  cases k with
  | nil=>exact absurd ((h x).1 (by simp)) (by simp)
  | cons y k=>
   have hl':=List.pairwise_cons.1 hl;have hk':=List.pairwise_cons.1 hk
   have hxy:x=y:=by
    have a1:=(h x).1 (by simp);have a2:=(h y).2 (by simp);rcases qz.1 a1 with a1 | a1
    ·exact a1
    ·rcases qz.1 a2 with a2 | a2
     ·exact a2.symm
     ·have:=hl'.1 _ a2;have:=hk'.1 _ a1;omega
   subst hxy;rw [ih hl'.2 hk'.2 fun z=>?_];constructor
   ·intro hz;rcases qz.1 ((h z).1 (by simp [hz])) with e | e
    ·have:=hl'.1 _ hz;omega
    ·exact e
   ·intro hz;rcases qz.1 ((h z).2 (by simp [hz])) with e | e
    ·have:=hk'.1 _ hz;omega
    ·exact e
def upTo (p:Int->Bool):List Int:=((List.range 12).map Int.ofNat).filter p
theorem zCN (p:Int->Bool):Up (upTo p):=by
 unfold Up upTo;exact List.Pairwise.filter _ (by decide)
theorem zjz {p:Int->Bool} {v:Int}:v∈upTo p↔0<=v∧v<=11∧p v=true:=by
 simp only [upTo,List.mem_filter,qQ,List.mem_range];constructor
 ·rintro ⟨⟨n,h,rfl⟩,hp⟩
  exact ⟨Int.natCast_nonneg n,by simp only [Int.ofNat_eq_natCast];omega,hp⟩
 ·rintro ⟨h1,h2,hp⟩
  exact ⟨⟨v.toNat,by omega,by simp only [Int.ofNat_eq_natCast];omega⟩,hp⟩
theorem zxh (p:Int->Bool):(upTo p).length<=12:=by
 unfold upTo;exact Nat.le_trans (List.length_filter_le _ _) (by simp)
theorem zIv (p:Int->Bool) (i:Nat) (hi:i<=12): ∀o,o=(((List.range i).map Int.ofNat).filter p)->(i<12->((((List.range (i+1)).map Int.ofNat).filter p)=if p i=true then o++ [(i:Int)] else o)):=by
 intro o ho _;subst ho;rw [List.range_succ,List.map_append,List.filter_append];simp only [qK,List.map_nil,Int.ofNat_eq_natCast];cases h:p i<;>simp [h]
def putN:List Int->Int->List Int
 | [],n=> [n]
 | x::r,n=>if x<n then x::putN r n else if x=n then x::r else n::x::r
theorem zEj {l:List Int} {n x:Int}:x∈putN l n↔x∈l∨x=n:=by
 induction l with
 | nil=>simp [putN]
 | cons y r ih=>
  simp only [putN];split
  ·simp only [qz,ih,or_assoc]
  ·split
   ·rename_i h;subst h;simp only [qz];constructor
    ·intro h;exact .inl h
    ·rintro (h | rfl)
     ·exact h
     ·exact .inl rfl
   ·simp only [qz];constructor
    ·rintro (h | h)
     ·exact .inr h
     ·exact .inl h
    ·rintro (h | h)
     ·exact .inr h
     ·exact .inl h
theorem zLD {l:List Int} (h:Up l) (n:Int):Up (putN l n):=by
 induction l with
 | nil=>simp [putN,Up]
 | cons y r ih=>
  have h':=List.pairwise_cons.1 h;simp only [putN];split
  ·refine List.pairwise_cons.2 ⟨fun z hz=>?_,ih h'.2⟩;rcases zEj.1 hz with hz | rfl
   ·exact h'.1 _ hz
   ·assumption
  ·split
   ·exact h
   ·refine List.pairwise_cons.2 ⟨fun z hz=>?_,h⟩;rcases qz.1 hz with rfl | hz
    ·omega
    ·have:=h'.1 _ hz;omega
theorem zAt (l:List Int) (n:Int):(putN l n).length<=l.length+1:=by
 induction l with
 | nil=>simp [putN]
 | cons y r ih=>
  simp only [putN];split
  ·simp only [qD];omega
  ·split<;>simp
theorem zBa (n:Int): ∀(P R:List Int),(∀x∈P,x<n)->(∀y,R.head?=some y->n<=y)->putN (P++R) n=if R.head?=some n then P++R else P++n::R
 | [],[],_,_=>by simp [putN]
 | [],y::R,_,h=>by
  have:=h y rfl;simp only [qC,putN,List.head?_cons,qI]
  rw [qc (by omega)]
 | x::P,R,h,h'=>by
  have ih:=zBa n P R (fun y hy=>h y (by simp [hy])) h';simp only [qZ,putN];rw [qb (h x (by simp)),ih];split<;>rfl
theorem zHc (l:List Int) (hl:l.length<=100000) (n:Int): ∀k i:Nat,i+k=l.length->(∀x∈l.take i,x<n)-> ∃j:Nat,j<=l.length∧zkR M l n i=some (.inl (l,n,j,()))∧(∀x∈l.take j,x<n)∧(∀y,(l.drop j).head?=some y->n<=y):=by
 intro k
 induction k with
 | zero=>
  intro i hi h;obtain rfl:i=l.length:=by omega
  exact ⟨l.length,ql _,zqo _ _ _ (by simp [zjA]),h,by simp⟩
 | succ k ih=>
  intro i hi h;have h1:i<l.length:=by omega
  by_cases hx:l[i]<n
  ·obtain ⟨j,g2,g3,g4⟩:=ih (i+1) (by omega) (by
    intro x hx';rw [List.take_succ_eq_append_getElem h1,qr] at hx';rcases hx' with hx' | hx'
    ·exact h x hx'
    ·simp at hx';omega)
   refine ⟨j,g2,zqo _ _ _ ?_,g4⟩;simp only [zjA];rw [qb (by simpa using h1),qb (by omega),qo,qu h1];simp only [qa];rw [qb (by simpa using hx),zb (by omega)];exact g3
  ·refine ⟨i,by omega,zqo _ _ _ ?_,h,?_⟩
   ·simp only [zjA];rw [qb (by simpa using h1),qb (by omega),qo,qu h1];simp only [qa];rw [qc (by simpa using hx)]
   ·intro y hy;rw [qj h1] at hy;simp only [List.head?_cons,qI] at hy;omega
theorem zHx (l:List Int) (hl:l.length<=100000) (n:Int):znZ M l n=some ((putN l n,()),()):=by
 obtain ⟨j,g2,g3,g4,g5⟩:=zHc l hl n l.length 0 (by omega) (by simp);rw [e0x] at g3;have key:=zBa n (l.take j) (l.drop j) g4 g5;rw [wa] at key;apply zES;simp only [zvO,g3,qa,qd];by_cases h1:j<l.length
 ·have hh:(l.drop j).head?=some l[j]:=by rw [qj h1];rfl
  rw [qb (by simpa using h1),qb (by omega),qo,qu h1];simp only [qa,qo,Int.toNat_zero,qk,qC,qT,qL,List.length_take,List.length_drop,qD,List.take_length];rw [hh] at key;by_cases h2:l[j]=n
  ·rw [qb (by simpa using h2),key,qb (by rw [h2])]
  ·rw [qc (by simpa using h2),qb (by omega),qb (by omega),qb (by omega),qb (by omega),qb (by omega),key,qc (by simpa using h2)];simp
 ·have hd:l.drop j= []:=List.drop_of_length_le (by omega);rw [hd] at key;rw [qc (by simpa using h1)];simp only [qa,qo,Int.toNat_zero,qk,qC,qT,qL,List.length_take,List.length_drop,qD,List.take_length];rw [qb (by omega),qb (by omega),qb (by omega),qb (by omega),qb (by omega),key,hd];simp
theorem Up.le12 {L:List Int} (h:Up L) (hb: ∀v∈L,0<=v∧v<=11):L=upTo (fun v=>decide (v∈L)):=by
 refine Up.ext h (zCN _) fun x=>?_
 rw [zjz];constructor
 ·intro hx;exact ⟨(hb x hx).1,(hb x hx).2,by simpa using hx⟩
 ·rintro ⟨_,_,hx⟩;simpa using hx
theorem Up.len12 {L:List Int} (h:Up L) (hb: ∀v∈L,0<=v∧v<=11):L.length<=12:=by
 rw [h.le12 hb];exact zxh _
theorem zpM: ∀(vs o:List Int),(vs.foldl putN o).length<=o.length+vs.length
 | [],o=>by simp
 | v::vs,o=>by
  have h1:=zpM vs (putN o v);have h2:=zAt o v;simp only [List.foldl_cons,qD];omega
theorem zm9: ∀(vs o:List Int) (x:Int),x∈vs.foldl putN o↔x∈o∨x∈vs
 | [],o,x=>by simp
 | v::vs,o,x=>by
  simp only [List.foldl_cons,zm9 vs,zEj,qz,or_assoc]
theorem zBE: ∀(vs o:List Int),Up o->Up (vs.foldl putN o)
 | [],o,h=>h
 | v::vs,o,h=>zBE vs _ (zLD h v)
theorem ziU (x:List Int) (h:x.length<=1048576):zaI M x=some ((x,()),()):=by
 apply zyC;simp only [zrD];rw [qb (by simp;omega)];simp
theorem zFO (v:Int) (a:List Int) (ha:a.length<=1000): ∀k i:Nat,i+k=a.length->zhT M v a a.length i=some (if v∈a.drop i then .inr ((true,()),()) else .inl ()):=by
 intro k
 induction k with
 | zero=>
  intro i hi;obtain rfl:i=a.length:=by omega
  exact zmt _ _ _ _ (by simp [zg0])
 | succ k ih=>
  intro i hi;have h1:i<a.length:=by omega
  rw [qj h1];apply zmt;simp only [zg0];rw [qb (by simpa using h1),zd h1,zb (by omega)];simp only [qa];by_cases h:a[i]=v
  ·rw [qb (by simpa using h),qb (by rw [h];exact qv ..)]
  ·rw [qc (by simpa using h),ih (i+1) (by omega)];by_cases h2:v∈a.drop (i+1)
   ·rw [qb h2,qb (qn _ h2)]
   ·rw [qc h2,qc (fun h3=>by rcases qz.1 h3 with e | e;exact h e.symm;exact h2 e)]
theorem zEG (a:List Int) (v:Int) (ha:a.length<=1000):zfY M a v=some ((decide (v∈a),()),()):=by
 apply zzp;have:=zFO v a ha a.length 0 (by omega);rw [e0x,qk] at this;simp only [zrf,this,qa];by_cases h:v∈a
 ·rw [qb h,qp h];rfl
 ·rw [qc h,qA h];rfl
theorem zMJ {a:List Int} (hg:gS a=true): ∀(t:List Int) (k:Int) (i:Nat),0<=k->sE a k t=some []->i<t.length-> ∃u x,t.drop i=u++x∧Tm a u:=by
 intro t
 induction t with
 | nil=>intro k i _ _ h;simp at h
 | cons n t ih=>
  intro k i hk h hi;have h0:=h;simp only [sE] at h;split at h
  ·cases h
  ·rename_i hk';split at h
   ·cases h
   ·rename_i hb;have hn:=zsX hg n
    cases i with
    | zero=>
     obtain ⟨u,x,e,h1,_⟩:=zA5 hg (n::t) 1 (k-1) [] (by omega) (by omega) (by rw [<-h0];congr 1;omega)
     exact ⟨u,x,by simpa using e,h1⟩
    | succ i=>simpa using ih _ i (by omega) h (by simpa using hi)
theorem Tm.at {a:List Int} (hg:gS a=true) {t:List Int} (h:Tm a t) {i:Nat} (hi:i<t.length): ∃u x,t.drop i=u++x∧Tm a u:=zMJ hg t 1 i (by omega) h hi
theorem zsq {t u x:List Int} {i:Nat} (h:t.drop i=u++x) (hu:0<u.length):i+u.length+x.length=t.length∧(t.take (i+u.length)).drop i=u:=by
 have hl:=congrArg List.length h;simp only [List.length_drop,qL] at hl;refine ⟨by omega,?_⟩;rw [List.drop_take,h,Nat.add_sub_cancel_left,List.take_left]
theorem zs6 (s:TSign) (hg:gS s.1=true) (t:List Int) (ht:t.length<=1048576) {i:Nat} {u x:List Int} (h:t.drop i=u++x) (hu:Tm s.1 u):zcz M s t i=some ((u,()),()):=by
 obtain ⟨c1,c2⟩:=zsq h (Tm.pos hu);have hp:=Tm.pos hu;have he:=zB9 s hg t i (by omega) ht;rw [h,Tm.rest hg hu x] at he;apply zDQ;simp only [ztS,za,he,qa];rw [qb (by omega),qo,show ((t.length:Int)-x.length).toNat=i+u.length by omega,c2,ziU u (by omega)];rfl
theorem zze (s:TSign) (hg:gS s.1=true) (t:List Int) (ht:t.length<=1048576): ∀(u x:List Int) (i:Nat) (k:Int),t.drop i=u++x->i<=t.length->0<=k->k+3*u.length<=4000000->sE s.1 k u=some []->zhI M t i s k=some (.inl (((i+u.length:Nat):Int),())):=by
 intro u
 induction u with
 | nil=>
  intro x i k h hi h0 hb hk;simp only [sE] at hk;split at hk
  ·apply zsd;simp only [zj7];rw [qc (by simp;omega)];simp
  ·cases hk
 | cons n u ih=>
  intro x i k h hi h0 hb hk
  have h1:i<t.length:=by
   have hl:=congrArg List.length h;simp at hl;omega
  have hd:=h;rw [qj h1,qZ] at hd;obtain ⟨hn,hd⟩:=List.cons.inj hd;simp only [sE] at hk;split at hk
  ·cases hk
  ·rename_i hk';split at hk
   ·cases hk
   ·rename_i hbad;have ha:=zsX hg n;simp only [qD] at hb;have:=ih x (i+1) (k-1+ar s.1 n) hd (by omega) (by omega) (by omega) hk;apply zsd;simp only [zj7];rw [qb (by simp;omega),zd h1,hn];simp only [qa,za,zD9 s n hbad];rw [zb (by omega),w64 (x:=ar s.1 n-1) (by omega) (by omega),w64 (by omega) (by omega),show k+(ar s.1 n-1)=k-1+ar s.1 n by omega,this];simp;omega
theorem zzx (s:TSign) (hg:gS s.1=true) (t:List Int) (ht:t.length<=1000000) {i:Nat} {u x:List Int} (h:t.drop i=u++x) (hu:Tm s.1 u):zbd M s t i=some ((u,()),()):=by
 obtain ⟨c1,c2⟩:=zsq h (Tm.pos hu);have hp:=Tm.pos hu;have he:=zze s hg t (by omega) u x i 1 h (by omega) (by omega) (by omega) hu
 have he':zes M s t i=some ((((i+u.length:Nat):Int),()),()):=by
  apply zrj;simp only [zkK,za,he,qa,qd]
 apply zAx;simp only [zqe,za,he',qa];rw [qb (by omega),qo,qo,c2,qb (by omega)]
theorem zDM (sub:List (List Int)) (σ:Int->List Int) (hσ:SubF sub σ) (hb: ∀v,(σ v).length<=100000) (T:List Int) (hT:T.length<=100) (hv: ∀n∈T,-12<=n):
  ∀k i:Nat,i+k=T.length-> ∀o:List Int,o.length<=40->zic M sub o T T.length i=some (if (o++apS σ (T.drop i)).length<=40 then .inl (o++apS σ (T.drop i),()) else .inr (([],false,()),())):=by
 intro k
 induction k with
 | zero=>
  intro i hi o ho;obtain rfl:i=T.length:=by omega
  apply zvN;simp only [zmI];rw [qc (by simp),qG]
  simp [apS,ho]
 | succ k ih=>
  intro i hi o ho;have h1:i<T.length:=by omega
  have h2:=hv _ (qi h1);have h3:=zGi hb T[i];have h4:=hb (-1-T[i]);have hs:apS σ (T.drop i)=rp σ T[i]++apS σ (T.drop (i+1)):=by rw [qj h1];simp only [apS,List.flatMap_cons]
  have go: ∀x:List Int,rp σ T[i]=x->(if decide (((o++x).length:Int)>(40:Int))=true then some (.inr (([],false,()),())) else zic M sub (o++x) T T.length ((i+1:Nat):Int))=some (if (o++apS σ (T.drop i)).length<=40 then .inl (o++apS σ (T.drop i),()) else .inr (([],false,()),())):=by
   intro x hx;subst hx;rw [hs,<-qE];by_cases hl:(o++rp σ T[i]).length<=40
   ·rw [qc (by simp only [qt];omega),ih (i+1) (by omega) _ hl]
   ·rw [qb (by simp only [qt];omega),qc (by rw [qL];omega)]
  apply zvN;simp only [zmI];rw [qb (by simpa using h1),zd h1];simp only [qa];by_cases hn:T[i]<0
  ·rw [qb (by simpa using hn),w64 (x:= -1-T[i]) (by omega) (by omega),hσ.idx (by omega) (by omega)];simp only [qa];by_cases hl:0<(σ (-1-T[i])).length
   ·rw [qb (by simp;omega),qb (by omega)];simp only [qa,qd];rw [zb (by omega)];exact go _ (by unfold rp;rw [qb ⟨hn,hl⟩])
   ·rw [qc (by simp only [qt];omega),qb (by simp;omega)];simp only [qa,qd];rw [zb (by omega)];exact go _ (by unfold rp;rw [qc (fun q=>hl q.2)])
  ·rw [qc (by simpa using hn),qb (by simp;omega)];simp only [qa,qd];rw [zb (by omega)];exact go _ (by unfold rp;rw [qc (fun q=>hn q.1)])
theorem zsI (sub:List (List Int)) (σ:Int->List Int) (hσ:SubF sub σ) (hb: ∀v,(σ v).length<=100000) (T:List Int) (hT:T.length<=100) (hv: ∀n∈T,-12<=n):zcD M sub T=some (if (apS σ T).length<=40 then ((apS σ T,true,()),()) else (([],false,()),())):=by
 apply zE6;have:=zDM sub σ hσ hb T hT hv T.length 0 (by omega) [] (by simp);rw [e0x,qk,qC] at this;simp only [zu5,this,qa];split<;>rfl
theorem zMQ (t:List Int) (v:Int) (ht:t.length<=17592186044416) (h0: -1000<=v) (h1:v<=1000):znM M t v=some ((decide (-1-v∈t),()),()):=by
 apply zBt;simp only [zrk];rw [w64 (x:= -1-v) (by omega) (by omega),zuS t _ ht];rfl
def inV (ts:List (List Int)) (v:Int):Bool:=ts.any fun t=>decide (-1-v∈t)
theorem zEA (ts:List (List Int)) (v:Int) (h0: -1000<=v) (h1:v<=1000) (hl:ts.length<=17592186044416) (hx: ∀t∈ts,t.length<=17592186044416): ∀k i:Nat,i+k=ts.length-> ∃r,zao M ts (v,()) ts.length i=some r∧(match r with | .inl _=>inV (ts.drop i) v=false | .inr r=>0<=r.1.1∧inV (ts.drop i) v=true):=by
 intro k
 induction k with
 | zero=>
  intro i hi;obtain rfl:i=ts.length:=by omega
  exact ⟨.inl (),zbT _ _ _ _ (by simp [zak]),by simp [inV]⟩
 | succ k ih=>
  intro i hi;have h2:i<ts.length:=by omega
  obtain ⟨r,hr,hm⟩:=ih (i+1) (by omega);rw [qj h2];have hc:=zMQ ts[i] v (hx _ (qi h2)) h0 h1
  cases hp:decide (-1-v∈ts[i]) with
  | false=>
   refine ⟨r,zbT _ _ _ _ ?_,?_⟩
   ·simp only [zak];rw [qb (by simpa using h2),zd h2];simp only [qa,hc,hp,qg,qe];rw [zb (by omega)];exact hr
   ·cases r with
    | inl r=>simp only [inV,List.any_cons,hp,Bool.false_or];exact hm
    | inr r=>simp only [inV,List.any_cons,hp,Bool.false_or];exact hm
  | true=>
   refine ⟨.inr (((i:Int),()),()),zbT _ _ _ _ ?_,Int.natCast_nonneg i,?_⟩
   ·simp only [zak];rw [qb (by simpa using h2),zd h2];simp only [qa,hc,hp,qf]
   ·simp only [inV,List.any_cons,hp,Bool.true_or]
theorem zEH (ts:List (List Int)) (v:Int) (h0: -1000<=v) (h1:v<=1000) (hl:ts.length<=17592186044416) (hx: ∀t∈ts,t.length<=17592186044416):za4 M ts (v,())=some ((inV ts v,()),()):=by
 obtain ⟨r,hr,hm⟩:=zEA ts v h0 h1 hl hx ts.length 0 (by omega);rw [e0x] at hr;rw [qk] at hm;apply zkb
 cases r with
 | inl r=>
  rw [za5,zeG ts (v,()) (r:=((-1,()),())) (by simp only [zbk,hr,qa,qd])];simp only at hm
  simp [hm]
 | inr r=>
  rw [za5,zeG ts (v,()) (r:=r) (by simp only [zbk,hr,qa,qF])];simp only at hm;simp [hm]
theorem zDY (ts:List (List Int)) (hl:ts.length<=17592186044416) (hx: ∀t∈ts,t.length<=17592186044416): ∀k i:Nat,i+k=12-> ∀o:List Int,o=((List.range i).map Int.ofNat).filter (inV ts)->zjG M ts o i=some (.inl (upTo (inV ts),())):=by
 intro k
 induction k with
 | zero=>
  intro i hi o ho;obtain rfl:i=12:=by omega
  subst ho
  exact zuj _ _ _ (by simp [zlH,upTo])
 | succ k ih=>
  intro i hi o ho;have hp:=zIv (inV ts) i (by omega) o ho (by omega);have hol:o.length<=12:=by rw [ho];exact Nat.le_trans (List.length_filter_le _ _) (by simp;omega)
  apply zuj;simp only [zlH];rw [qb (by simp;omega),zEH ts i (by omega) (by omega) hl hx];simp only [qa]
  cases hv:inV ts (i:Int) with
  | true=>
   rw [hv,qb rfl] at hp;rw [qb rfl,qb (by simp;omega)];simp only [qa,qd];rw [zb (by omega)]
   exact ih (i+1) (by omega) _ hp.symm
  | false=>
   rw [hv,qc (by simp)] at hp;rw [qc (by simp)];simp only [qa,qd];rw [zb (by omega)];exact ih (i+1) (by omega) _ hp.symm
theorem zFa (ts:List (List Int)) (hl:ts.length<=17592186044416) (hx: ∀t∈ts,t.length<=17592186044416):zin M ts=some ((upTo (inV ts),()),()):=by
 apply zDz;simp only [ztY];have:=zDY ts hl hx 12 0 (by omega) [] (by simp);rw [e0x] at this;rw [this];rfl
theorem zMi {a:List Int}: ∀(t:List Int) (k:Int),sE a k t=some []-> ∀n∈t,-12<=n∧n<a.length:=by
 intro t
 induction t with
 | nil=>intro k _ n hn;cases hn
 | cons m t ih=>
  intro k h n hn;simp only [sE] at h;split at h
  ·cases h
  ·split at h
   ·cases h
   ·rename_i hb;unfold badN at hb;rcases qz.1 hn with rfl | hn
    ·omega
    ·exact ih _ h n hn
theorem zqM {a t:List Int} (h:isT a t=true):t.length<=40∧ ∀n∈t,-12<=n∧n<a.length:=by
 simp only [isT,qq,qt] at h;exact ⟨h.1,zMi t 1 h.2⟩
def litOK (a:List Int) (x:TLit):Bool:=isT a x.2.1&&isT a x.2.2.1
def clOK (a:List Int) (c:List TLit):Bool:=decide (c.length<=8)&&c.all (litOK a)
theorem zLf (s:TSign) (hg:gS s.1=true) (x:TLit) (h:smL x):zos M s x=some ((litOK s.1 x,()),()):=by
 apply zyF;simp only [zqP,za,zsv s hg x.2.1 h.1,zsv s hg x.2.2.1 h.2,qa,litOK];cases isT s.1 x.2.1<;>simp
theorem zKZ (s:TSign) (hg:gS s.1=true) (x:TLit):zlz M s x=some ((litOK s.1 x,()),()):=by
 apply zzW;simp only [zo2,za,zA1 s hg x.2.1,zA1 s hg x.2.2.1,qa,litOK];cases isT s.1 x.2.1<;>simp
theorem zBP (s:TSign) (hg:gS s.1=true) (a:List TLit) (ha:a.length<=1048576) (hx: ∀x∈a,smL x): ∀k i:Nat,i+k=a.length->zcK M a s a a.length i=some (if (a.drop i).all (litOK s.1)=true then .inl (a,()) else .inr ((false,()),())):=by
 intro k
 induction k with
 | zero=>
  intro i hi;obtain rfl:i=a.length:=by omega
  apply zeE
  simp [zda]
 | succ k ih=>
  intro i hi;apply zeE;have h1:i<a.length:=by omega
  simp only [zda];rw [qb (by simpa using h1),zd h1,zb (by omega)];simp only [qa,za,zg,zLf s hg a[i] (hx _ (qi h1)),ih (i+1) (by omega)];rw [qj h1,qR];generalize litOK s.1 a[i]=b;cases b<;>rfl
theorem zeV (s:TSign) (hg:gS s.1=true) (a:List TLit) (ha:a.length<=1048576) (hx: ∀x∈a,smL x):zaG M s a=some ((clOK s.1 a,()),()):=by
 apply zrg;simp only [zkJ,za];have:=zBP s hg a ha hx a.length 0 (by omega);rw [e0x] at this;rw [this,qk,clOK];cases a.all (litOK s.1)
 ·simp
 ·simp;omega
theorem zAm (s:TSign) (hg:gS s.1=true) (x:TLit):zhq M x s=some ((!litOK s.1 x,()),()):=by
 apply zwD;simp only [zld,za,zg,zKZ s hg x,qa]
theorem zEF (s:TSign) (hg:gS s.1=true) (a:List TLit) (ha:a.length<=1048576): ∀k i:Nat,i+k=a.length-> ∃r,zz M a (s,()) a.length i=some r∧(match r with | .inl _=>(a.drop i).all (litOK s.1)=true | .inr r=>0<=r.1.1∧(a.drop i).all (litOK s.1)=false):=by
 intro k
 induction k with
 | zero=>
  intro i hi;obtain rfl:i=a.length:=by omega
  refine ⟨.inl (),zaR _ _ _ _ (by simp [zu]),by simp⟩
 | succ k ih=>
  intro i hi;have h1:i<a.length:=by omega
  obtain ⟨r,hr,hm⟩:=ih (i+1) (by omega);rw [qj h1,qR];by_cases hp:litOK s.1 a[i]=true
  ·refine ⟨r,zaR _ _ _ _ ?_,by rw [hp,Bool.true_and];exact hm⟩;simp only [zu];rw [qb (by simpa using h1),zd h1,zb (by omega)];simp only [qa,zg,zAm s hg,hp,qm,qg,qe];exact hr
  ·rw [Bool.not_eq_true] at hp;refine ⟨.inr (((i:Int),()),()),zaR _ _ _ _ ?_,Int.natCast_nonneg i,by rw [hp,Bool.false_and]⟩;simp only [zu];rw [qb (by simpa using h1),zd h1];simp only [qa,zg,zAm s hg,hp,qO,qf]
theorem zFk (s:TSign) (hg:gS s.1=true) (a:List TLit) (ha:a.length<=1048576):z9 M a (s,())=some ((!(a.all (litOK s.1)),()),()):=by
 apply zfT;simp only [zaW];obtain ⟨r,hr,hm⟩:=zEF s hg a ha a.length 0 (by omega);rw [e0x] at hr;rw [qk] at hm
 cases r with
 | inl r=>
  rw [zct a (s,()) (r:=((-1,()),())) (by simp only [zaj,hr,qa,qd])];simp only at hm
  simp [hm]
 | inr r=>
  rw [zct a (s,()) (r:=r) (by simp only [zaj,hr,qa,qF])];simp only at hm;simp [hm]
theorem zqZ (s:TSign) (hg:gS s.1=true) (a:List TLit) (ha:a.length<=1048576):zcf M s a=some ((clOK s.1 a,()),()):=by
 apply zxN;simp only [zmB,za,zFk s hg a ha,qa,clOK];by_cases h:a.length<=8
 ·rw [qb (by simp;omega)];simp [h]
 ·rw [qc (by simp;omega)];simp [h]
def tms (c:List TLit):List (List Int):=c.flatMap fun x=> [x.2.1,x.2.2.1]
theorem zkj (c:List TLit):(tms c).length=2*c.length:=by
 induction c with
 | nil=>rfl
 | cons x r ih=>
  have:tms (x::r)= [x.2.1,x.2.2.1]++tms r:=rfl;rw [this,qL,ih];simp;omega
theorem zc3 {c:List TLit} {t:List Int}:t∈tms c↔ ∃x∈c,t=x.2.1∨t=x.2.2.1:=by
 simp [tms]
theorem zBY (c:List TLit) (hc:c.length<=1048576): ∀k i:Nat,i+k=c.length-> ∀o:List (List Int),o.length<=2*i->ziI M o c c.length i=some (.inl (o++tms (c.drop i),())):=by
 intro k
 induction k with
 | zero=>
  intro i hi o ho;obtain rfl:i=c.length:=by omega
  exact zs2 _ _ _ _ (by simp [zkV,tms])
 | succ k ih=>
  intro i hi o ho;have h1:i<c.length:=by omega
  apply zs2;simp only [zkV];rw [qb (by simpa using h1),zd h1];simp only [qa];rw [qb (by simp;omega),zb (by omega),ih (i+1) (by omega) _ (by simp;omega),qj h1];have:tms (c[i]::c.drop (i+1))= [c[i].2.1,c[i].2.2.1]++tms (c.drop (i+1)):=rfl;rw [this,qE]
theorem zoh (c:List TLit) (hc:c.length<=1048576):zbO M c=some ((tms c,()),()):=by
 apply zCM;have:=zBY c hc c.length 0 (by omega) [] (by simp);rw [e0x] at this;simp only [zsr,this,qa,qd,qC,qk]
def negs (t:List Int):List Int:=(t.filter fun n=>decide (n<0)).map fun n=> -1-n
theorem zJB {x:Int} (h:x<0) (r:List Int):negs (x::r)=(-1-x)::negs r:=by simp [negs,h]
theorem zI9 {x:Int} (h: ¬x<0) (r:List Int):negs (x::r)=negs r:=by simp [negs,h]
theorem zxu (t:List Int):(negs t).length<=t.length:=by simp only [negs,qV];exact List.length_filter_le _ _
theorem zAL {t:List Int} {v:Int}:v∈negs t↔0<=v∧ -1-v∈t:=by
 simp only [negs,qQ,List.mem_filter,qt];constructor
 ·rintro ⟨n,⟨h1,h2⟩,rfl⟩
  exact ⟨by omega,by rw [show -1-(-1-n)=n by omega];exact h1⟩
 ·rintro ⟨h1,h2⟩
  exact ⟨-1-v,⟨h2,by omega⟩,by omega⟩
theorem zCd (t:List Int) (ht:t.length<=4000) (hw: ∀n∈t,-1000<=n): ∀k i:Nat,i+k=t.length-> ∀o:List Int,o.length<=i->zjp M o t t.length i=some (.inl ((negs (t.drop i)).foldl putN o,())):=by
 intro k
 induction k with
 | zero=>
  intro i hi o ho;obtain rfl:i=t.length:=by omega
  exact zug _ _ _ _ (by simp [zlv,negs])
 | succ k ih=>
  intro i hi o ho;have h1:i<t.length:=by omega
  have hn:=hw _ (qi h1);apply zug;simp only [zlv];rw [qb (by simpa using h1),zd h1,qj h1];simp only [qa];by_cases hx:t[i]<0
  ·have hl:=zAt o (-1-t[i]);rw [qb (by simpa using hx),w64 (x:= -1-t[i]) (by omega) (by omega),zHx o (by omega)];simp only [qa,qd];rw [zb (by omega),ih (i+1) (by omega) _ (by omega)];rw [zJB hx];rfl
  ·rw [qc (by simpa using hx)];simp only [qa,qd];rw [zb (by omega),ih (i+1) (by omega) _ (by omega)];rw [zI9 hx]
theorem zwa (t:List Int) (ht:t.length<=4000) (hw: ∀n∈t,-1000<=n):ziq M t=some (((negs t).foldl putN [],()),()):=by
 apply zDO;have:=zCd t ht hw t.length 0 (by omega) [] (by simp);rw [e0x] at this;simp only [zt4,this,qa,qd,qk]
def lvs (x:TLit):List Int:=(negs x.2.1).foldl putN []++(negs x.2.2.1).foldl putN []
theorem zFZ {x:TLit} {v:Int}:v∈lvs x↔0<=v∧(-1-v∈x.2.1∨ -1-v∈x.2.2.1):=by
 simp only [lvs,qr,zm9,List.not_mem_nil,false_or,zAL];constructor
 ·rintro (⟨h1,h2⟩ | ⟨h1,h2⟩)
  ·exact ⟨h1,.inl h2⟩
  ·exact ⟨h1,.inr h2⟩
 ·rintro ⟨h1,h2 | h2⟩
  ·exact .inl ⟨h1,h2⟩
  ·exact .inr ⟨h1,h2⟩
theorem zFC (c:List TLit) (n j:Int) (vs:List Int) (hl:vs.length<=500): ∀k i:Nat,i+k=vs.length-> ∀o:List Int,o.length<=400+i->zex M o c n j vs vs.length i=some (.inl ((vs.drop i).foldl putN o,c,n,j,())):=by
 intro k
 induction k with
 | zero=>
  intro i hi o ho;obtain rfl:i=vs.length:=by omega
  exact zqW _ _ _ _ _ _ _ (by simp [zja])
 | succ k ih=>
  intro i hi o ho;have h1:i<vs.length:=by omega
  apply zqW;simp only [zja];rw [qb (by simpa using h1),qb (by omega),qo,qu h1];simp only [qa,zHx o (by omega)];have:=zAt o vs[i];rw [zb (by omega),ih (i+1) (by omega) _ (by omega),qj h1];rfl
def liV (x:TLit):Prop:=x.2.1.length<=40∧x.2.2.1.length<=40∧(∀n∈x.2.1,-12<=n)∧ ∀n∈x.2.2.1,-12<=n
theorem foldv (c:List TLit) (hc: ∀x∈c,liV x): ∀o:List Int,Up o->(∀v∈o,0<=v∧v<=11)->Up (c.foldl (fun o x=>(lvs x).foldl putN o) o)∧(∀v∈c.foldl (fun o x=>(lvs x).foldl putN o) o,0<=v∧v<=11)∧ ∀v,v∈c.foldl (fun o x=>(lvs x).foldl putN o) o↔v∈o∨ ∃x∈c,v∈lvs x:=by
 induction c with
 | nil=>intro o h1 h2;exact ⟨h1,h2,by simp⟩
 | cons x r ih=>
  intro o h1 h2;have hx:=hc x (by simp)
  have hb: ∀v∈(lvs x).foldl putN o,0<=v∧v<=11:=by
   intro v hv;rcases (zm9 _ _ _).1 hv with h | h
   ·exact h2 v h
   ·obtain ⟨a1,a2⟩:=zFZ.1 h;rcases a2 with a2 | a2
    ·have:=hx.2.2.1 _ a2;omega
    ·have:=hx.2.2.2 _ a2;omega
  obtain ⟨g1,g2,g3⟩:=ih (fun y hy=>hc y (by simp [hy])) _ (zBE (lvs x) o h1) hb;refine ⟨g1,g2,fun v=>?_⟩;rw [List.foldl_cons,g3 v,zm9];simp only [qz,exists_eq_or_imp,or_assoc]
theorem zDA (c:List TLit) (hl:c.length<=1000) (hc: ∀x∈c,liV x): ∀k i:Nat,i+k=c.length-> ∀o:List Int,Up o->(∀v∈o,0<=v∧v<=11)->zjx M o c c.length i=some (.inl ((c.drop i).foldl (fun o x=>(lvs x).foldl putN o) o,())):=by
 intro k
 induction k with
 | zero=>
  intro i hi o ho hb;obtain rfl:i=c.length:=by omega
  exact zuy _ _ _ _ (by simp [zlk])
 | succ k ih=>
  intro i hi o ho hb;have h1:i<c.length:=by omega
  have hx:=hc _ (qi h1);have l1:=zxu c[i].2.1;have l2:=zxu c[i].2.2.1;have l3:=zpM (negs c[i].2.1) [];have l4:=zpM (negs c[i].2.2.1) [];have x1:=hx.1;have x2:=hx.2.1;simp only [qT] at l3 l4;have ol:=ho.len12 hb;have step:=foldv [c[i]] (by intro y hy;simp at hy;subst hy;exact hx) o ho hb;simp only [List.foldl_cons,List.foldl_nil] at step;apply zuy;simp only [zlk];rw [qb (by simpa using h1),zd h1];simp only [qa];rw [zwa _ (by omega) (fun n hn=>by have:=hx.2.2.1 n hn;omega)];simp only [qa];rw [zwa _ (by omega) (fun n hn=>by have:=hx.2.2.2 n hn;omega)];simp only [qa];rw [qb (by omega)];have hin:=zFC c c.length i (lvs c[i]) (by simp only [lvs,qL];omega) (lvs c[i]).length 0 (by omega) o (by omega);rw [e0x,qk] at hin;have hin':zex M o c c.length i ((negs c[i].2.1).foldl putN []++(negs c[i].2.2.1).foldl putN []) ((negs c[i].2.1).foldl putN []++(negs c[i].2.2.1).foldl putN []).length 0=some (.inl ((lvs c[i]).foldl putN o,c,c.length,i,())):=hin;rw [hin'];simp only [qa,qd];rw [zb (by omega),ih (i+1) (by omega) _ step.1 step.2.1,qj h1];rfl
theorem zKj (c:List TLit) (hl:c.length<=1000) (hc: ∀x∈c,liV x):zpZ M c=some ((upTo (inV (tms c)),()),()):=by
 apply zDo;have:=zDA c hl hc c.length 0 (by omega) [] List.Pairwise.nil (by simp);rw [e0x] at this;simp only [zt0,this,qa,qd,qk];obtain ⟨g1,g2,g3⟩:=foldv c hc [] List.Pairwise.nil (by simp);congr 3;refine Up.ext g1 (zCN _) fun v=>?_
 rw [g3 v,zjz];simp only [List.not_mem_nil,false_or,zFZ,inV,List.any_eq_true,qt];constructor
 ·rintro ⟨x,hx,h0,h⟩
  have hh:=hc x hx;refine ⟨h0,?_,?_⟩
  ·rcases h with h | h
   ·have:=hh.2.2.1 _ h;omega
   ·have:=hh.2.2.2 _ h;omega
  ·rcases h with h | h
   ·exact ⟨_,zc3.2 ⟨x,hx,.inl rfl⟩,h⟩
   ·exact ⟨_,zc3.2 ⟨x,hx,.inr rfl⟩,h⟩
 ·rintro ⟨h0,_,t,ht,h⟩
  obtain ⟨x,hx,h1⟩:=zc3.1 ht;rcases h1 with rfl | rfl
  ·exact ⟨x,hx,h0,.inl h⟩
  ·exact ⟨x,hx,h0,.inr h⟩
theorem zsE {a:List Int} {c:List TLit} (h:clOK a c=true):c.length<=8∧ ∀x∈c,liV x:=by
 simp only [clOK,qq,qt] at h;refine ⟨h.1,fun x hx=>?_⟩;have:=(List.all_eq_true.1 h.2) x hx;simp only [litOK,qq] at this;obtain ⟨l1,l2⟩:=zqM this.1;obtain ⟨r1,r2⟩:=zqM this.2;exact ⟨l1,r1,fun n hn=>(l2 n hn).1,fun n hn=>(r2 n hn).1⟩
def shn (by' n:Int):Int:=if n<0 then n-by' else n
theorem zEz (by':Int) (h0:0<=by') (h1:by'<=1000) (t:List Int) (hl:t.length<=1000000) (hx: ∀n∈t,-1000000<=n∧n<=1000000): ∀k i:Nat,i+k=t.length->zk2 M by' ((t.take i).map (shn by')++t.drop i) t.length i=some (.inl (t.map (shn by'),())):=by
 intro k
 induction k with
 | zero=>
  intro i hi;obtain rfl:i=t.length:=by omega
  apply zvJ
  simp [zmH]
 | succ k ih=>
  intro i hi;have h2:i<t.length:=by omega
  have hn:=hx _ (qi h2);have hlen:((t.take i).map (shn by')++t.drop i).length=t.length:=by simp;omega
  have hget:((t.take i).map (shn by')++t.drop i)[i]?=some t[i]:=by
   rw [List.getElem?_append_right (by simp;omega)];simp [Nat.min_eq_left (Nat.le_of_lt h2),h2]
  have hnext:(t.take (i+1)).map (shn by')++t.drop (i+1)=((t.take i).map (shn by')++t.drop i).set i (shn by' t[i]):=by
   rw [List.take_succ_eq_append_getElem h2,List.map_append,List.set_append_right _ _ (by simp;omega)];have e:i-((t.take i).map (shn by')).length=0:=by simp;omega
   rw [e,qj h2,List.set_cons_zero,qE];rfl
  have ih':=ih (i+1) (by omega);rw [hnext] at ih';apply zvJ;simp only [zmH];rw [qb (by simpa using h2),qb (by rw [hlen];omega),qo,hget];simp only [qa];by_cases hneg:t[i]<0
  ·rw [qb (by simpa using hneg),qb (by rw [hlen];omega),w64 (x:=t[i]-by') (by omega) (by omega)];simp only [qa,qd];rw [zb (by omega)];have:shn by' t[i]=t[i]-by':=by simp [shn,hneg]
   rw [this] at ih';exact ih'
  ·rw [qc (by simpa using hneg)];simp only [qa,qd];rw [zb (by omega)];have:shn by' t[i]=t[i]:=by simp [shn,hneg]
   rw [this] at ih'
   have hset:((t.take i).map (shn by')++t.drop i).set i t[i]=(t.take i).map (shn by')++t.drop i:=by
    apply List.ext_getElem?;intro j;rw [List.getElem?_set];split
    ·rename_i e;subst e;rw [hget,qb (by rw [hlen];exact h2)]
    ·rfl
   rw [hset] at ih';exact ih'
theorem zLx (t:List Int) (by':Int) (h0:0<=by') (h1:by'<=1000) (hl:t.length<=1000000) (hx: ∀n∈t,-1000000<=n∧n<=1000000):zq4 M t by'=some ((t.map (shn by'),()),()):=by
 apply zEN;simp only [zvj];have:=zEz by' h0 h1 t hl hx t.length 0 (by omega);rw [e0x] at this;simp only [List.take_zero,List.map_nil,qC,qk] at this;rw [qb (by omega),this];rfl
theorem zCc (by':Int) (h0:0<=by') (h1:by'<=1000) (t:List Int) (hl:t.length<=1000000) (hx: ∀n∈t,-1000000<=n∧n<=1000000): ∀k i:Nat,i+k=t.length->ziA M by' ((t.take i).map (shn by')++t.drop i) t.length i=some (.inl (t.map (shn by'),())):=by
 intro k
 induction k with
 | zero=>
  intro i hi;obtain rfl:i=t.length:=by omega
  apply ztg
  simp [zkw]
 | succ k ih=>
  intro i hi;have h2:i<t.length:=by omega
  have hn:=hx _ (qi h2);have hlen:((t.take i).map (shn by')++t.drop i).length=t.length:=by simp;omega
  have hget:((t.take i).map (shn by')++t.drop i)[i]?=some t[i]:=by
   rw [List.getElem?_append_right (by simp;omega)];simp [Nat.min_eq_left (Nat.le_of_lt h2),h2]
  have hnext:(t.take (i+1)).map (shn by')++t.drop (i+1)=((t.take i).map (shn by')++t.drop i).set i (shn by' t[i]):=by
   rw [List.take_succ_eq_append_getElem h2,List.map_append,List.set_append_right _ _ (by simp;omega)];have e:i-((t.take i).map (shn by')).length=0:=by simp;omega
   rw [e,qj h2,List.set_cons_zero,qE];rfl
  have ih':=ih (i+1) (by omega);rw [hnext] at ih';apply ztg;simp only [zkw];rw [qb (by simpa using h2),qb (by rw [hlen];omega),qo,hget];simp only [qa];by_cases hneg:t[i]<0
  ·rw [qb (by simpa using hneg),qb (by rw [hlen];omega),w64 (x:=t[i]-by') (by omega) (by omega)];simp only [qa,qd];rw [zb (by omega)];have:shn by' t[i]=t[i]-by':=by simp [shn,hneg]
   rw [this] at ih';exact ih'
  ·rw [qc (by simpa using hneg)];simp only [qa,qd];rw [zb (by omega)];have:shn by' t[i]=t[i]:=by simp [shn,hneg]
   rw [this] at ih'
   have hset:((t.take i).map (shn by')++t.drop i).set i t[i]=(t.take i).map (shn by')++t.drop i:=by
    apply List.ext_getElem?;intro j;rw [List.getElem?_set];split
    ·rename_i e;subst e;rw [hget,qb (by rw [hlen];exact h2)]
    ·rfl
   rw [hset] at ih';exact ih'
theorem zCY (t:List Int) (by':Int) (h0:0<=by') (h1:by'<=1000) (hl:t.length<=1000000) (hx: ∀n∈t,-1000000<=n∧n<=1000000):zl4 M t by'=some ((t.map (shn by'),()),()):=by
 apply zCD
 have ho:zaI M t=some ((t,()),()):=by
  apply zyC;simp only [zrD,qT,qC];rw [qb (by omega)]
 simp only [zsl,ho,qa];have:=zCc by' h0 h1 t hl hx t.length 0 (by omega);rw [e0x] at this;simp only [List.take_zero,List.map_nil,qC,qk] at this;rw [this];rfl
def nmb (m:List (Int×Int)) (n:Int):List (Int×Int):=if mhas m n=true then m else mput m n (-1-(m.length:Int))
def rnm:List (Int×Int)->List Int->List Int×List (Int×Int)
 | m,[]=>([],m)
 | m,n::r=>if 0<=n then (n::(rnm m r).1,(rnm m r).2) else (mget (nmb m n) n 0::(rnm (nmb m n) r).1,(rnm (nmb m n) r).2)
def rnL:List (Int×Int)->List (List Int)->List (List Int)
 | _,[]=> []
 | m,t::r=>(rnm m t).1::rnL (rnm m t).2 r
theorem zJI {α:Type} (m:List (Int×α)) (k:Int) (y:α):(mput m k y).length<=m.length+1:=by
 induction m with
 | nil=>simp [mput]
 | cons p r ih=>
  obtain ⟨a,b⟩:=p;simp only [mput];split<;>simp only [qD]<;>omega
theorem zF7 (m:List (Int×Int)) (n:Int):(nmb m n).length<=m.length+1:=by
 unfold nmb;split
 ·omega
 ·exact zJI _ _ _
theorem zwM: ∀(t:List Int) (m:List (Int×Int)),(rnm m t).1.length=t.length∧(rnm m t).2.length<=m.length+t.length
 | [],m=>by simp [rnm]
 | n::r,m=>by
  simp only [rnm];split
  ·have:=zwM r m;simp only [qD];omega
  ·have h1:=zwM r (nmb m n);have h2:=zF7 m n;simp only [qD];omega
theorem zFV (outs:List (List Int)) (i:Nat) (hi:i<outs.length) (ho:outs.length<=1000000) (l:List (List Int)) (N I:Int) (t:List Int) (ht:t.length<=1000000): ∀(k j:Nat) (m:List (Int×Int)) (P:List Int),j+k=t.length->P.length=j->m.length+k<=2000000->
  zgW M m (outs.set i (P++t.drop j)) i l N I t t.length j=some (.inl ((rnm m (t.drop j)).2,outs.set i (P++(rnm m (t.drop j)).1),l,N,I,())):=by
 intro k
 induction k with
 | zero=>
  intro j m P hj hP hm;obtain rfl:j=t.length:=by omega
  apply zqU
  simp [zi4,rnm]
 | succ k ih=>
  intro j m P hj hP hm;have h1:j<t.length:=by omega
  rw [qj h1];apply zqU;simp only [zi4];rw [qb (by simpa using h1),zd h1];simp only [qa];by_cases h0:0<=t[j]
  ·rw [qb (by simpa using h0)];simp only [qa,qd];have:=ih (j+1) m (P++ [t[j]]) (by omega) (by simp [hP]) (by omega);rw [qE,qE] at this;simp only [qZ,qC] at this;rw [zb (by omega),this];simp only [rnm,qb h0]
  ·rw [qc (by simpa using h0)];have hl:=zF7 m t[j]
   have hmap:(if (!(mhas m t[j]))=true then (some (.inl ((mput m t[j] (IntKind.i64.wrap ((-1:Int)-(List.length m:Int)))),outs.set i (P++t[j]::t.drop (j+1)),(i:Int),(j:Int),t[j],l,N,I,t,(t.length:Int),(j:Int),()))) else (some (.inl (m,outs.set i (P++t[j]::t.drop (j+1)),(i:Int),(j:Int),t[j],l,N,I,t,(t.length:Int),(j:Int),())))
     :Option (((List (Int×Int))×(List (List Int))×Int×Int×Int×(List (List Int))×Int×Int×(List Int)×Int×Int×Unit)⊕(((List (Int×Int))×(List (List Int))×Int×(List (List Int))×Int×Int×(List Int)×Int×Int×Unit)⊕(((List (Int×Int))×(List (List Int))×(List (List Int))×Int×Int×Unit)⊕((((List (List Int))×Unit)×(Unit)))))))
     =some (.inl (nmb m t[j],outs.set i (P++t[j]::t.drop (j+1)),(i:Int),(j:Int),t[j],l,N,I,t,(t.length:Int),(j:Int),())):=by
    unfold nmb
    cases mhas m t[j] with
    | true=>rfl
    | false=>rw [w64 (by omega) (by omega)];rfl
   rw [hmap];simp only [qa,qd];have hset:(outs.set i (P++t[j]::t.drop (j+1)))[i]?=some (P++t[j]::t.drop (j+1)):=by simp [hi]
   have hel:(P++t[j]::t.drop (j+1))[j]?=some t[j]:=by
    rw [List.getElem?_append_right (by omega),hP,Nat.sub_self];rfl
   rw [qb (by rw [List.length_set];omega),qo,hset];simp only [qa];rw [qb (by simp;omega),qo,hel];simp only [qa,qd]
   rw [List.set_set,show (P++t[j]::t.drop (j+1)).set j (mget (nmb m t[j]) t[j] 0)=(P++ [mget (nmb m t[j]) t[j] 0])++t.drop (j+1) by
    rw [List.set_append_right _ _ (by omega),hP,Nat.sub_self,List.set_cons_zero];simp]
   have:=ih (j+1) (nmb m t[j]) (P++ [mget (nmb m t[j]) t[j] 0]) (by omega) (by simp [hP]) (by omega);rw [zb (by omega),this];simp only [rnm,qc h0];simp
theorem zDy (l:List (List Int)) (hl:l.length<=1000) (hx: ∀t∈l,t.length<=1000): ∀(k j:Nat) (m:List (Int×Int)) (D:List (List Int)),j+k=l.length->D.length=j->m.length<=1000*j->ziw M m (D++List.replicate k []) l l.length j=some (.inl (D++rnL m (l.drop j),())):=by
 intro k
 induction k with
 | zero=>
  intro j m D hj hD hm;obtain rfl:j=l.length:=by omega
  apply ztA
  simp [zky,rnL]
 | succ k ih=>
  intro j m D hj hD hm;have h1:j<l.length:=by omega
  have ht:=hx _ (qi h1);apply ztA;simp only [zky];have hlen:(D++List.replicate (k+1) ([]:List Int)).length=l.length:=by simp;omega
  have hget:(D++List.replicate (k+1) ([]:List Int))[j]?=some []:=by
   rw [List.getElem?_append_right (by omega),hD,Nat.sub_self];rfl
  rw [qb (by simpa using h1),zd h1];simp only [qa];rw [qb (by omega),qb (by rw [hlen];omega),qo,hget];simp only [qa];have hin:=zFV (D++List.replicate (k+1) []) j (by omega) (by omega) l l.length j l[j] (by omega) l[j].length 0 m [] (by omega) rfl (by omega);rw [e0x] at hin;simp only [qC,qk] at hin;rw [hin];simp only [qa,qd]
  have hset:(D++List.replicate (k+1) []).set j (rnm m l[j]).1=(D++ [(rnm m l[j]).1])++List.replicate k []:=by
   rw [List.set_append_right _ _ (by omega),hD,Nat.sub_self,List.replicate_succ,List.set_cons_zero];simp
  have hrl:=(zwM l[j] m).2;rw [zb (by omega),hset,ih (j+1) _ _ (by omega) (by simp [hD]) (by omega),qj h1];simp [rnL]
theorem zJ7 (l:List (List Int)) (hl:l.length<=1000) (hx: ∀t∈l,t.length<=1000):zpN M l=some ((rnL [] l,()),()):=by
 apply zDq;have:=zDy l hl hx l.length 0 [] [] (by omega) rfl (by simp);rw [e0x] at this;simp only [qC,qk] at this;simp only [zub];rw [qb ⟨by omega,by omega,trivial⟩,qo,this];rfl
theorem zD4 (a b:List Int) (hab:a.length=b.length) (ha:a.length<=17592186044416): ∀k i:Nat,i+k=a.length->zdm M a b a.length i=some (if a.drop i=b.drop i then .inl () else .inr ((false,()),())):=by
 intro k
 induction k with
 | zero=>
  intro i hi;obtain rfl:i=a.length:=by omega
  apply zmL;simp only [zeT]
  rw [qc (by simp),qG,hab,qG,qb rfl]
 | succ k ih=>
  intro i hi;have h1:i<a.length:=by omega
  have h2:i<b.length:=by omega
  apply zmL;simp only [zeT];rw [qb (by simpa using h1),zd h1,zd h2];simp only [qa];rw [qj h1,qj h2];by_cases he:a[i]=b[i]
  ·rw [qc (by simpa using he),zb (by omega),ih (i+1) (by omega)];by_cases hd:a.drop (i+1)=b.drop (i+1)
   ·rw [qb hd,qb (by rw [he,hd])]
   ·rw [qc hd,qc (fun h=>hd (List.cons.inj h).2)]
  ·rw [qb (by simpa using he),qc (fun h=>he (List.cons.inj h).1)]
theorem zna (a b:List Int) (ha:a.length<=17592186044416):zL M a b=some ((decide (a=b),()),()):=by
 apply zwt;simp only [zk9];by_cases hl:a.length=b.length
 ·have:=zD4 a b hl ha a.length 0 (by omega);rw [e0x,qk,qk] at this;rw [qc (by simp [hl]),this];by_cases h:a=b
  ·rw [qb h];simp [h]
  ·rw [qc h];simp [h]
 ·have: ¬a=b:=fun h=>hl (by rw [h])
  rw [qb (by simp;omega)];simp [this]
end Go.Proofs.YtchkojfhcdcnmaaGreatMd.Ev
