/- Texts laid together: XAi, XAj, YAa, SGby, SGay, SGa, SGb, XAe, PEg, PEc, SGc, SGd, XAkz, XAmz, SGe, SGf; no condition but those that each theorem names. -/
import Derived.Test.YtchkojfhcdcnmaaGreatMdXAc
import Derived.Test.YtchkojfhcdcnmaaGreatMdQKa
namespace Go.Proofs.YtchkojfhcdcnmaaGreatMd.Ev
open Go
set_option autoImplicit false
set_option linter.unusedVariables false
set_option linter.unusedSimpArgs false
def gtC (steps:List TStep) (k:Int):List TLit:=match idx steps k with
 | some x=>x.2.2.2.1
 | none=> []
theorem zw0 {steps:List TStep} {k:Nat} (h:k<steps.length):gtC steps (k:Int)=steps[k].2.2.2.1:=by
 unfold gtC;rw [zd h]
theorem zmO {α:Type} {xs:List α} {k:Int} (h0:0<=k) (h1:k<(xs.length:Int)): ∃n:Nat,k=(n:Int)∧n<xs.length:=⟨k.toNat,by omega,by omega⟩
section
variable (s : TSign) (hg : gS s.1 = true) (inputs : List (List TLit)) (hi : inputs.length <= 1048576) (hic : ∀ c ∈ inputs, clOK s.1 c = true) (steps : List TStep) (hs : steps.length <= 1048576) (hsc : ∀ x ∈ steps, clOK s.1 x.2.2.2.1 = true) (ps way : List Int) (hp : ps.length <= 1048576) (hw : way.length <= 1048576) (hps : ∀ k ∈ ps, 0 <= k ∧ k < (steps.length : Int))
theorem zh0 (a b:Int):zdQ M a b ps way=some (((((ps.length:Int)==a)&&((way.length:Int)==b)),()),()):=by
 apply zyI;simp only [zoe];cases ((ps.length:Int)==a)<;>rfl
include hps in
theorem zlK (i:Nat) (h:i<ps.length):zI M (i:Int) steps ps=some ((gtC steps ps[i],()),()):=by
 obtain ⟨h0,h1⟩:=hps _ (qi h);obtain ⟨n,e,hn⟩:=zmO h0 h1;apply zy3;simp only [zn5,zd h,qa,e,zd hn,zw0 hn]
include hps hs hp in
theorem zsi (rule:Int): ∀(k i:Nat) (o:List (List TLit)),i+k=ps.length->o.length<=i->zg7 M inputs steps rule way s o ps ps.length i=some (.inl (inputs,rule,way,s,o++(ps.drop i).map (gtC steps),())):=by
 intro k
 induction k with
 | zero=>
  intro i o hi ho;obtain rfl:i=ps.length:=by omega
  apply zo8;simp only [ziJ,za];rw [qc (by simp),qG]
  simp
 | succ k ih=>
  intro i o hi ho;have h:i<ps.length:=by omega
  obtain ⟨h0,h1⟩:=hps _ (qi h);obtain ⟨n,e,hn⟩:=zmO h0 h1
  have hin:z6 M (n:Int) 0 (IntKind.i64.wrap ((steps.length:Int)-1))=some ((true,()),()):=by
   rw [w64 (by omega) (by omega),zfw,qp (by omega),qp (by omega)];rfl
  apply zo8;simp only [ziJ,za];rw [qb (by simpa using h),zd h];simp only [qa,e,hin,zd hn,qm,qg,qe];rw [qb (by simp;omega),zb (by omega),ih (i+1) _ (by omega) (by simp;omega),qj h,qK,e,zw0 hn,qE];rfl
include hsc hps in
theorem zlL (i:Nat) (h:i<ps.length):clOK s.1 (gtC steps ps[i])=true:=by
 obtain ⟨h0,h1⟩:=hps _ (qi h);obtain ⟨n,e,hn⟩:=zmO h0 h1;rw [e,zw0 hn];exact hsc _ (qi hn)
def SndM (C:List TLit):Prop:= ∀w:TWorld,wOK s.1 w=true->(∀c∈inputs,HOL s.1 w c)->(∀k∈ps,HOL s.1 w (gtC steps k))->HOL s.1 w C
def okMade (rule:Int):Prop:= ∃(ok:Bool) (C1 C2:List TLit),zmq M s inputs steps rule ps way=some ((C1,ok,()),())∧zm5 M s inputs steps rule ps way=some ((C2,ok,()),())∧(ok=true->C1=C2∧clOK s.1 C1=true∧SndM s inputs steps ps C1)
theorem zxo (c:List TLit) (n:Int):zh5 M c n=some ((c,((n==0) || (n==5)),()),()):=by
 apply zBL;simp only [zrA];cases (n==0)<;>rfl
include hg hi hic hs hps hp
theorem zJw:okMade s inputs steps ps way 1:=by
 have L:=zsi s inputs steps hs ps way hp hps 1 ps.length 0 [] (by omega) (by simp);rw [e0x,qk,qC] at L;have hl:(((ps.map (gtC steps)).length:Nat):Int)=(ps.length:Int):=by simp
 cases hA:((ps.length:Int)==0) with
 | false=>
  refine ⟨false,[],[],zU _ _ _ _ _ _ ?_,zas _ _ _ _ _ _ ?_,fun h=>by cases h⟩
  ·simp only [zH,zh0,hA,qa];rfl
  ·simp only [zaf,za,L,hl,hA,qa,qd];rfl
 | true=>
 cases hB:((way.length:Int)==1) with
 | false=>
  refine ⟨false,[],[],zU _ _ _ _ _ _ ?_,zas _ _ _ _ _ _ ?_,fun h=>by cases h⟩
  ·simp only [zH,zh0,hA,hB,qa];rfl
  ·simp only [zaf,za,L,hl,hA,hB,qa,qd];rfl
 | true=>
 have hw1:0<way.length:=by
  have:(way.length:Int)=1:=by simpa using hB
  omega
 obtain ⟨w,hx⟩: ∃w:Int,idx way 0=some w:=⟨_,zd hw1⟩;have hin:z6 M w 0 (IntKind.i64.wrap ((inputs.length:Int)-1))=some ((decide ((0:Int)<=w)&&decide (w<=(inputs.length:Int)-1),()),()):=by rw [w64 (by omega) (by omega),zfw]
 by_cases h0:0<=w
 ·by_cases h1:w<(inputs.length:Int)
  ·obtain ⟨n,e,hn⟩:=zmO h0 h1;rw [qp h0,qp (by omega)] at hin;have hc:=hic _ (qi hn);obtain ⟨c1,c2⟩:=zm.1 hc;obtain ⟨o1,o2⟩:=zle inputs[n] (by omega) (fun x hx=>by have:=zbt (c2 x hx);omega);refine ⟨true,_,_,zU _ _ _ _ _ _ ?_,zas _ _ _ _ _ _ ?_,fun _=>⟨rfl,zuY c1 c2,fun w' hw hI _=>zvw hg hw (hI _ (qi hn)) c2⟩⟩
   ·simp only [zH,zh0,hA,hB,hx,qa];simp only [qp (show w>=0 from h0),qp h1,Bool.and_self,qf,qa,qd,hx,wc];simp only [e,zd hn,o1,qa];rfl
   ·simp only [zaf,za,L,hl,hA,hB,hx,hin,qa,qd,wc,qf,Bool.and_self];simp only [e,zd hn,o2,qa];rfl
  ·rw [qp h0,qA (by omega)] at hin;refine ⟨false,[],[],zU _ _ _ _ _ _ ?_,zas _ _ _ _ _ _ ?_,fun h=>by cases h⟩
   ·simp only [zH,zh0,hA,hB,hx,qa];simp only [qp (show w>=0 from h0),qA h1,Bool.and_self,qf,qa,qd,hx,wc];rfl
   ·simp only [zaf,za,L,hl,hA,hB,hx,hin,qa,qd];rfl
 ·rw [qA h0] at hin;refine ⟨false,[],[],zU _ _ _ _ _ _ ?_,zas _ _ _ _ _ _ ?_,fun h=>by cases h⟩
  ·simp only [zH,zh0,hA,hB,hx,qa];simp only [qA (show ¬w>=0 from h0),Bool.and_self,qf,qa,qd,wc];rfl
  ·simp only [zaf,za,L,hl,hA,hB,hx,hin,qa,qd];rfl
include hsc
omit hi hic
theorem zJr:okMade s inputs steps ps way 2:=by
 have L:=zsi s inputs steps hs ps way hp hps 2 ps.length 0 [] (by omega) (by simp);rw [e0x,qk,qC] at L;have hl:(((ps.map (gtC steps)).length:Nat):Int)=(ps.length:Int):=by simp
 have d1:((2:Int)==1)=false:=rfl;have d2:((2:Int)==2)=true:=rfl;have d3:((2:Int)==3)=false:=rfl;have d4:((2:Int)==4)=false:=rfl;have d5:((2:Int)==5)=false:=rfl
 cases hA:((ps.length:Int)==2) with
 | false=>
  refine ⟨false,[],[],zU _ _ _ _ _ _ ?_,zas _ _ _ _ _ _ ?_,fun h=>by cases h⟩
  ·simp only [zH,zh0,hA,qa];rfl
  ·simp only [zaf,za,L,hl,hA,d1,d2,d3,d4,d5,qa,qd,qf,qg,qe];rfl
 | true=>
 cases hB:((way.length:Int)==5) with
 | false=>
  refine ⟨false,[],[],zU _ _ _ _ _ _ ?_,zas _ _ _ _ _ _ ?_,fun h=>by cases h⟩
  ·simp only [zH,zh0,hA,hB,qa];rfl
  ·simp only [zaf,za,L,hl,hA,hB,d1,d2,d3,d4,d5,qa,qd,qf,qg,qe];rfl
 | true=>
 obtain ⟨a,b,rfl⟩: ∃a b,ps= [a,b]:=by
  have:ps.length=2:=by have:(ps.length:Int)=2:=(by simpa using hA);omega
  match ps,this with
  | [a,b],_=>exact ⟨a,b,rfl⟩
 obtain ⟨w0,w1,w2,w3,w4,rfl⟩: ∃w0 w1 w2 w3 w4,way= [w0,w1,w2,w3,w4]:=by
  have:way.length=5:=by have:(way.length:Int)=5:=(by simpa using hB);omega
  match way,this with
  | [w0,w1,w2,w3,w4],_=>exact ⟨w0,w1,w2,w3,w4,rfl⟩
 have m0:zI M 0 steps [a,b]=some ((gtC steps a,()),()):=zlK steps [a,b] hps 0 (by simp);have k0:clOK s.1 (gtC steps a)=true:=zlL s steps hsc [a,b] hps 0 (by simp);have m1:zI M 1 steps [a,b]=some ((gtC steps b,()),()):=zlK steps [a,b] hps 1 (by simp);have k1:clOK s.1 (gtC steps b)=true:=zlL s steps hsc [a,b] hps 1 (by simp);have i0:idx [w0,w1,w2,w3,w4] 0=some w0:=rfl;have i1:idx [w0,w1,w2,w3,w4] 1=some w1:=rfl;have i2:idx [w0,w1,w2,w3,w4] 2=some w2:=rfl;have i3:idx [w0,w1,w2,w3,w4] 3=some w3:=rfl;have i4:idx [w0,w1,w2,w3,w4] 4=some w4:=rfl;rw [show List.map (gtC steps) [a,b]= [gtC steps a,gtC steps b] from rfl] at L hl;obtain ⟨r,r1,r2,r3⟩:=zAY s hg (gtC steps a) (gtC steps b) k0 k1 w0 w1 w2 w3 w4;have g0:0<=(0:Int)∧(0:Int)<(([a,b].length:Nat):Int):=⟨by simp,by simp⟩;have j0: [gtC steps a,gtC steps b][(0:Int).toNat]?=some (gtC steps a):=rfl;have g1:0<=(1:Int)∧(1:Int)<(([a,b].length:Nat):Int):=⟨by simp,by simp⟩;have j1: [gtC steps a,gtC steps b][(1:Int).toNat]?=some (gtC steps b):=rfl;refine ⟨((r.1.2.1==0) || (r.1.2.1==5)),r.1.1,r.1.1,zU _ _ _ _ _ _ ?_,zas _ _ _ _ _ _ ?_,fun h=>⟨rfl,r3.1,fun w' hw _ hP=>r3.2 (by simpa using h) w' hw (hP a (by simp)) (hP b (by simp))⟩⟩
 ·simp only [zH,zh0,hA,hB,d1,d2,d3,d4,d5,m0,m1,i0,i1,i2,i3,i4,za,r1,zxo,qa,Bool.and_self,qf,qg,qe];rfl
 ·simp only [zaf,za,L,hl,hA,hB,d1,d2,d3,d4,d5,qa,qd,qf,qg,qe];rw [qb g0];simp only [j0,qa];rw [qb g1];simp only [j1,qa];simp only [i0,i1,i2,i3,i4,r2,qa,qd];cases (r.1.2.1==0)<;>rfl
theorem zGT:okMade s inputs steps ps way 3:=by
 have L:=zsi s inputs steps hs ps way hp hps 3 ps.length 0 [] (by omega) (by simp);rw [e0x,qk,qC] at L;have hl:(((ps.map (gtC steps)).length:Nat):Int)=(ps.length:Int):=by simp
 have d1:((3:Int)==1)=false:=rfl;have d2:((3:Int)==2)=false:=rfl;have d3:((3:Int)==3)=true:=rfl;have d4:((3:Int)==4)=false:=rfl;have d5:((3:Int)==5)=false:=rfl
 cases hA:((ps.length:Int)==1) with
 | false=>
  refine ⟨false,[],[],zU _ _ _ _ _ _ ?_,zas _ _ _ _ _ _ ?_,fun h=>by cases h⟩
  ·simp only [zH,zh0,hA,qa];rfl
  ·simp only [zaf,za,L,hl,hA,d1,d2,d3,d4,d5,qa,qd,qf,qg,qe];rfl
 | true=>
 cases hB:((way.length:Int)==1) with
 | false=>
  refine ⟨false,[],[],zU _ _ _ _ _ _ ?_,zas _ _ _ _ _ _ ?_,fun h=>by cases h⟩
  ·simp only [zH,zh0,hA,hB,qa];rfl
  ·simp only [zaf,za,L,hl,hA,hB,d1,d2,d3,d4,d5,qa,qd,qf,qg,qe];rfl
 | true=>
 obtain ⟨a,rfl⟩: ∃a,ps= [a]:=by
  have:ps.length=1:=by have:(ps.length:Int)=1:=(by simpa using hA);omega
  match ps,this with
  | [a],_=>exact ⟨a,rfl⟩
 obtain ⟨w0,rfl⟩: ∃w0,way= [w0]:=by
  have:way.length=1:=by have:(way.length:Int)=1:=(by simpa using hB);omega
  match way,this with
  | [w0],_=>exact ⟨w0,rfl⟩
 have m0:zI M 0 steps [a]=some ((gtC steps a,()),()):=zlK steps [a] hps 0 (by simp);have k0:clOK s.1 (gtC steps a)=true:=zlL s steps hsc [a] hps 0 (by simp);have i0:idx [w0] 0=some w0:=rfl;rw [show List.map (gtC steps) [a]= [gtC steps a] from rfl] at L hl;obtain ⟨r,r1,r2,r3⟩:=zyz s hg (gtC steps a) k0 w0;have g0:0<=(0:Int)∧(0:Int)<(([a].length:Nat):Int):=⟨by simp,by simp⟩;have j0: [gtC steps a][(0:Int).toNat]?=some (gtC steps a):=rfl;refine ⟨((r.1.2.1==0) || (r.1.2.1==5)),r.1.1,r.1.1,zU _ _ _ _ _ _ ?_,zas _ _ _ _ _ _ ?_,fun h=>⟨rfl,r3.1,fun w' hw _ hP=>r3.2 (by simpa using h) w' hw (hP a (by simp))⟩⟩
 ·simp only [zH,zh0,hA,hB,d1,d2,d3,d4,d5,m0,i0,za,r1,zxo,qa,Bool.and_self,qf,qg,qe];rfl
 ·simp only [zaf,za,L,hl,hA,hB,d1,d2,d3,d4,d5,qa,qd,qf,qg,qe];rw [qb g0];simp only [j0,qa];simp only [i0,r2,qa,qd];cases (r.1.2.1==0)<;>rfl
theorem zHN:okMade s inputs steps ps way 4:=by
 have L:=zsi s inputs steps hs ps way hp hps 4 ps.length 0 [] (by omega) (by simp);rw [e0x,qk,qC] at L;have hl:(((ps.map (gtC steps)).length:Nat):Int)=(ps.length:Int):=by simp
 have d1:((4:Int)==1)=false:=rfl;have d2:((4:Int)==2)=false:=rfl;have d3:((4:Int)==3)=false:=rfl;have d4:((4:Int)==4)=true:=rfl;have d5:((4:Int)==5)=false:=rfl
 cases hA:((ps.length:Int)==1) with
 | false=>
  refine ⟨false,[],[],zU _ _ _ _ _ _ ?_,zas _ _ _ _ _ _ ?_,fun h=>by cases h⟩
  ·simp only [zH,zh0,hA,qa];rfl
  ·simp only [zaf,za,L,hl,hA,d1,d2,d3,d4,d5,qa,qd,qf,qg,qe];rfl
 | true=>
 cases hB:((way.length:Int)==4) with
 | false=>
  refine ⟨false,[],[],zU _ _ _ _ _ _ ?_,zas _ _ _ _ _ _ ?_,fun h=>by cases h⟩
  ·simp only [zH,zh0,hA,hB,qa];rfl
  ·simp only [zaf,za,L,hl,hA,hB,d1,d2,d3,d4,d5,qa,qd,qf,qg,qe];rfl
 | true=>
 obtain ⟨a,rfl⟩: ∃a,ps= [a]:=by
  have:ps.length=1:=by have:(ps.length:Int)=1:=(by simpa using hA);omega
  match ps,this with
  | [a],_=>exact ⟨a,rfl⟩
 obtain ⟨w0,w1,w2,w3,rfl⟩: ∃w0 w1 w2 w3,way= [w0,w1,w2,w3]:=by
  have:way.length=4:=by have:(way.length:Int)=4:=(by simpa using hB);omega
  match way,this with
  | [w0,w1,w2,w3],_=>exact ⟨w0,w1,w2,w3,rfl⟩
 have m0:zI M 0 steps [a]=some ((gtC steps a,()),()):=zlK steps [a] hps 0 (by simp);have k0:clOK s.1 (gtC steps a)=true:=zlL s steps hsc [a] hps 0 (by simp);have i0:idx [w0,w1,w2,w3] 0=some w0:=rfl;have i1:idx [w0,w1,w2,w3] 1=some w1:=rfl;have i2:idx [w0,w1,w2,w3] 2=some w2:=rfl;have i3:idx [w0,w1,w2,w3] 3=some w3:=rfl;rw [show List.map (gtC steps) [a]= [gtC steps a] from rfl] at L hl;obtain ⟨r,r1,r2,r3⟩:=zAo s hg (gtC steps a) k0 w0 w1 w2 w3 0;have g0:0<=(0:Int)∧(0:Int)<(([a].length:Nat):Int):=⟨by simp,by simp⟩;have j0: [gtC steps a][(0:Int).toNat]?=some (gtC steps a):=rfl;refine ⟨((r.1.2.1==0) || (r.1.2.1==5)),r.1.1,r.1.1,zU _ _ _ _ _ _ ?_,zas _ _ _ _ _ _ ?_,fun h=>⟨rfl,r3.1,fun w' hw _ hP=>r3.2 (by simpa using h) w' hw (hP a (by simp))⟩⟩
 ·simp only [zH,zh0,hA,hB,d1,d2,d3,d4,d5,m0,i0,i1,i2,i3,za,r1,zxo,qa,Bool.and_self,qf,qg,qe];rfl
 ·simp only [zaf,za,L,hl,hA,hB,d1,d2,d3,d4,d5,qa,qd,qf,qg,qe];rw [qb g0];simp only [j0,qa];simp only [i0,i1,i2,i3,r2,qa,qd];cases (r.1.2.1==0)<;>rfl
end
def isU:List TLit->Bool
 | [x]=>x.1
 | _=>false
def hdL (c:List TLit):TLit:=c.headD (true,[],[],())
theorem zsz {c:List TLit} (h:isU c=true):c= [hdL c]:=by
 match c,h with
 | [x],_=>rfl
theorem zxj (c:List TLit) (hc:c.length<=1048576):zmN M c=some ((isU c,()),())∧zkn M c=some ((isU c,()),()):=by
 match c,hc with
 | [],_=>exact ⟨ztZ _ rfl,ztX _ rfl⟩
 | [x],_=>exact ⟨ztZ _ rfl,ztX _ rfl⟩
 | x::y::r,h=>
  have e:(((x::y::r).length:Int)==1)=false:=by simp;omega
  refine ⟨ztZ _ ?_,ztX _ ?_⟩
  ·simp only [zt2,e,qg,qe];rfl
  ·simp only [zt7,e,qg,qe];rfl
def failC:(List TLit×Bool×Unit)×Unit:=(([],false,()),())
section
variable (s : TSign) (hg : gS s.1 = true) (inputs : List (List TLit)) (hi : inputs.length <= 1048576) (hic : ∀ c ∈ inputs, clOK s.1 c = true) (steps : List TStep) (hs : steps.length <= 1048576) (hsc : ∀ x ∈ steps, clOK s.1 x.2.2.2.1 = true) (ps way : List Int) (hp : ps.length <= 1048576) (hw : way.length <= 1048576) (hps : ∀ k ∈ ps, 0 <= k ∧ k < (steps.length : Int))
include hps hp hsc in
theorem p_uI: ∀(m k:Nat) (units:List TLit),k+m=ps.length->units.length<=k->zdB M s ps (steps,ps,()) units k=some (if ((ps.drop k).map (gtC steps)).all isU=true then .inl (s,(steps,ps,()),units++((ps.drop k).map (gtC steps)).map hdL,()) else .inr failC):=by
 intro m
 induction m with
 | zero=>
  intro k units hk hu;obtain rfl:k=ps.length:=by omega
  apply znA;simp only [zfL,za];rw [qc (by simp),qG]
  simp
 | succ m ih=>
  intro k units hk hu;have h:k<ps.length:=by omega
  have h1:=zlK steps ps hps k h;have hc:=(zm.1 (zlL s steps hsc ps hps k h)).1;have hU:=(zxj (gtC steps ps[k]) (by omega)).1;apply znA;simp only [zfL,za];rw [qb (by simpa using h)];simp only [h1,hU,qa];rw [qj h,qK,qR]
  cases hq:isU (gtC steps ps[k]) with
  | false=>rfl
  | true=>
   have e:=zsz hq
   have hx:idx (gtC steps ps[k]) 0=some (hdL (gtC steps ps[k])):=by
    rw [e];rfl
   simp only [qm,qg,qe,hx,qa,Bool.true_and,zg];rw [qb (by simp;omega),zb (by omega),ih (k+1) _ (by omega) (by simp;omega),qE];rfl
theorem p_uS (P D:List (List TLit)) (hD:D.length<=1048576) (hDc: ∀c∈D,c.length<=1048576): ∀(m i:Nat) (units:List TLit),i+m=D.length->units.length<=i->zfx M s P units D D.length i=some (if (D.drop i).all isU=true then .inl (s,P,units++(D.drop i).map hdL,()) else .inr failC):=by
 intro m
 induction m with
 | zero=>
  intro i units hk hu;obtain rfl:i=D.length:=by omega
  apply zpp;simp only [zhm,za];rw [qc (by simp),qG]
  simp
 | succ m ih=>
  intro i units hk hu;have h:i<D.length:=by omega
  have hU:=(zxj D[i] (hDc _ (qi h))).2;apply zpp;simp only [zhm,za];rw [qb (by simpa using h),zd h];simp only [hU,qa];rw [qj h,qK,qR]
  cases hq:isU D[i] with
  | false=>rfl
  | true=>
   have e:=zsz hq
   have hx:idx D[i] 0=some (hdL D[i]):=by
    rw [e];rfl
   simp only [qm,qg,qe,hx,qa,Bool.true_and,zg];rw [qb (by simp;omega),zb (by omega),ih (i+1) _ (by omega) (by simp;omega),qE];rfl
include hg hs hsc hps hp hw
theorem zIu:okMade s inputs steps ps way 5:=by
 have L:=zsi s inputs steps hs ps way hp hps 5 ps.length 0 [] (by omega) (by simp);rw [e0x,qk,qC] at L;have hl:(((ps.map (gtC steps)).length:Nat):Int)=(ps.length:Int):=by simp
 have d1:((5:Int)==1)=false:=rfl;have d2:((5:Int)==2)=false:=rfl;have d3:((5:Int)==3)=false:=rfl;have d4:((5:Int)==4)=false:=rfl;have d5:((5:Int)==5)=true:=rfl;have hin:=zfw (ps.length:Int) 1 11;by_cases hA:1<=ps.length∧ps.length<=11
 case neg=>
  have e:(decide ((1:Int)<=(ps.length:Int))&&decide ((ps.length:Int)<=11))=false:=by
   rw [Bool.and_eq_false_iff];simp only [decide_eq_false_iff_not];omega
  rw [e] at hin;refine ⟨false,[],[],zU _ _ _ _ _ _ ?_,zas _ _ _ _ _ _ ?_,fun h=>by cases h⟩
  ·simp only [zH,d1,d2,d3,d4,d5,za,qf,qg,qe];by_cases h1:ps.length<1
   ·rw [qb (by simp;omega)];rfl
   ·rw [qc (by simp;omega),qb (by simp;omega)];rfl
  ·simp only [zaf,za,L,hl,hin,d1,d2,d3,d4,d5,qa,qd,qf,qg,qe];rfl
 case pos=>
 rw [qp (by omega),qp (by omega)] at hin;have n1:decide ((ps.length:Int)<1)=false:=by simp;omega
 have n2:decide ((ps.length:Int)>11)=false:=by simp;omega
 by_cases hB:way.length=0
 case neg=>
  have b1:decide ((way.length:Int)>0)=true:=qp (by omega);have b2:((way.length:Int)==0)=false:=beq_eq_false_iff_ne.2 (by omega);refine ⟨false,[],[],zU _ _ _ _ _ _ ?_,zas _ _ _ _ _ _ ?_,fun h=>by cases h⟩
  ·simp only [zH,d1,d2,d3,d4,d5,n1,n2,b1,za,qf,qg,qe];rfl
  ·simp only [zaf,za,L,hl,hin,b2,d1,d2,d3,d4,d5,qa,qd,qf,qg,qe];rfl
 case pos=>
 have b1:decide ((way.length:Int)>0)=false:=qA (by omega);have b2:((way.length:Int)==0)=true:=beq_iff_eq.2 (by omega);have hp0:0<ps.length:=by omega
 have m0:=zlK steps ps hps 0 hp0;have k0:=zlL s steps hsc ps hps 0 hp0;rw [e0x] at m0;have uI:=p_uI s steps hsc ps hp hps (ps.length-1) 1 [] (by omega) (by simp);rw [show ((1:Nat):Int)=1 from rfl] at uI
 have hDrop:((ps.map (gtC steps)).take (Int.toNat ((ps.map (gtC steps)).length:Int))).drop (Int.toNat (1:Int))=(ps.drop 1).map (gtC steps):=by
  rw [qo,List.take_length,show (1:Int).toNat=1 from rfl,List.map_drop]
 have hDrop':((ps.map (gtC steps)).take (Int.toNat (ps.length:Int))).drop (Int.toNat (1:Int))=(ps.drop 1).map (gtC steps):=by rw [<-hl];exact hDrop
 have hmem: ∀c∈(ps.drop 1).map (gtC steps),clOK s.1 c=true:=by
  intro c hc;obtain ⟨k,hk,rfl⟩:=qQ.1 hc;obtain ⟨i,hi,rfl⟩:=List.getElem_of_mem (List.mem_of_mem_drop hk);exact zlL s steps hsc ps hps i hi
 have uS:=p_uS s (ps.map (gtC steps)) ((ps.drop 1).map (gtC steps)) (by simp;omega) (fun c hc=>by have:=(zm.1 (hmem c hc)).1;omega) ((ps.drop 1).map (gtC steps)).length 0 [] (by omega) (by simp);rw [e0x,qk] at uS;have g1:0<=(1:Int)∧(1:Int)<=(ps.length:Int)∧(ps.length:Int)<=(ps.length:Int):=by omega
 cases hall:((ps.drop 1).map (gtC steps)).all isU with
 | false=>
  rw [hall,qc (by simp)] at uI uS;refine ⟨false,[],[],zU _ _ _ _ _ _ ?_,zas _ _ _ _ _ _ ?_,fun h=>by cases h⟩
  ·simp only [zH,d1,d2,d3,d4,d5,n1,n2,b1,za,uI,qa,qd,qF,qf,qg,qe];rfl
  ·simp only [zaf,za,L,hl,hin,b2,d1,d2,d3,d4,d5,qa,qd,qf,qg,qe,Bool.and_self];rw [qb g1,hDrop',uS]
   rfl
 | true=>
  rw [hall,qb rfl] at uI uS;rw [qC] at uI uS;have hUl:(((ps.drop 1).map (gtC steps)).map hdL).length<=1000:=by simp;omega
  have hUx: ∀x∈((ps.drop 1).map (gtC steps)).map hdL,litOK s.1 x=true:=by
   intro x hx;obtain ⟨c,hc,rfl⟩:=qQ.1 hx;have e:=zsz (List.all_eq_true.1 hall c hc);exact (zm.1 (hmem c hc)).2 _ (by rw [e];exact qM.2 rfl)
  obtain ⟨C,z1,z2,hC,eC,r1,r2⟩:=zza s _ hg hUl hUx (gtC steps ps[0]) k0
  have j0:idx (ps.map (gtC steps)) 0=some (gtC steps ps[0]):=by
   have:=zd (xs:=ps.map (gtC steps)) (i:=0) (by simpa using hp0);rw [List.getElem_map] at this;exact this
  refine ⟨true,C,C,zU _ _ _ _ _ _ ?_,zas _ _ _ _ _ _ ?_,fun _=>⟨rfl,hC,fun w' hw _ hP=>?_⟩⟩
  rotate_left 2
  ·have c2:=(zm.1 k0).2;have nok:=zH7 s _ hg hUl hUx c2;rw [eC];refine zvw hg hw (zLP hg hw (fun x hx=>⟨hUx x hx,?_⟩) c2 (hP _ (qi hp0)) (nfT s _) fun t ht=>?_) nok
   ·obtain ⟨c,hc,rfl⟩:=qQ.1 hx;have hu:=List.all_eq_true.1 hall c hc;have e:=zsz hu;refine ⟨by rw [e] at hu;exact hu,?_⟩;rw [<-e];obtain ⟨k,hk,rfl⟩:=qQ.1 hc;exact hP k (List.mem_of_mem_drop hk)
   ·obtain ⟨x,hx,e⟩:=zc3.1 ht;obtain ⟨h1,h2⟩:=z8.1 (c2 x hx);rcases e with rfl | rfl
    ·exact (p_nf s _ hg hUl hUx _ h1).2.1
    ·exact (p_nf s _ hg hUl hUx _ h2).2.1
  ·simp only [zH,d1,d2,d3,d4,d5,n1,n2,b1,za,uI,m0,r1,qa,qd,qf,qg,qe];rfl
  ·simp only [zaf,za,L,hl,hin,b2,d1,d2,d3,d4,d5,qa,qd,qf,qg,qe,Bool.and_self];rw [qb g1,hDrop',uS];simp only [qa,qd,hl];rw [j0];simp only [qa,r2];rfl
include hi hic
theorem zHI (rule:Int):okMade s inputs steps ps way rule:=by
 by_cases h1:rule=1
 ·subst h1;exact zJw s hg inputs hi hic steps hs ps way hp hps
 by_cases h2:rule=2
 ·subst h2;exact zJr s hg inputs steps hs hsc ps way hp hps
 by_cases h3:rule=3
 ·subst h3;exact zGT s hg inputs steps hs hsc ps way hp hps
 by_cases h4:rule=4
 ·subst h4;exact zHN s hg inputs steps hs hsc ps way hp hps
 by_cases h5:rule=5
 ·subst h5;exact zIu s hg inputs steps hs hsc ps way hp hw hps
 have L:=zsi s inputs steps hs ps way hp hps rule ps.length 0 [] (by omega) (by simp);rw [e0x,qk,qC] at L;have d1:(rule==1)=false:=by simpa using h1
 have d2:(rule==2)=false:=by simpa using h2
 have d3:(rule==3)=false:=by simpa using h3
 have d4:(rule==4)=false:=by simpa using h4
 have d5:(rule==5)=false:=by simpa using h5
 refine ⟨false,[],[],zU _ _ _ _ _ _ ?_,zas _ _ _ _ _ _ ?_,fun h=>by cases h⟩
 ·simp only [zH,d1,d2,d3,d4,d5,qg,qe];rfl
 ·simp only [zaf,za,L,d1,d2,d3,d4,d5,qa,qd,qf,qg,qe];rfl
end
section
variable (s : TSign) (hg : gS s.1 = true) (inputs : List (List TLit)) (hi : inputs.length <= 1048576) (hic : ∀ c ∈ inputs, clOK s.1 c = true) (steps : List TStep) (hs : steps.length <= 1048576) (hsc : ∀ x ∈ steps, clOK s.1 x.2.2.2.1 = true) (ps way : List Int) (hp : ps.length <= 1048576) (hw : way.length <= 1048576) (hps : ∀ k ∈ ps, 0 <= k ∧ k < (steps.length : Int))
include hps hs hp in
theorem zqv (rule:Int): ∀(k i:Nat) (o:List (List TLit)),i+k=ps.length->o.length<=i->zgY M inputs steps rule way s o ps ps.length i=some (.inl (inputs,steps,rule,way,s,o++(ps.drop i).map (gtC steps),())):=by
 intro k
 induction k with
 | zero=>
  intro i o hi ho;obtain rfl:i=ps.length:=by omega
  apply zq3;simp only [zi7,za];rw [qc (by simp),qG]
  simp
 | succ k ih=>
  intro i o hi ho;have h:i<ps.length:=by omega
  obtain ⟨h0,h1⟩:=hps _ (qi h);obtain ⟨n,e,hn⟩:=zmO h0 h1
  have hin:z6 M (n:Int) 0 (IntKind.i64.wrap ((steps.length:Int)-1))=some ((true,()),()):=by
   rw [w64 (by omega) (by omega),zfw,qp (by omega),qp (by omega)];rfl
  apply zq3;simp only [zi7,za];rw [qb (by simpa using h),zd h];simp only [qa,e,hin,qm,qg,qe];rw [qb (show (0:Int)<=(n:Int)∧(n:Int)<(steps.length:Int) by omega),qo,qu hn];simp only [qa];rw [qb (by simp;omega),zb (by omega),ih (i+1) _ (by omega) (by simp;omega),qj h,qK,e,zw0 hn,qE];rfl
def okMadeW (rule:Int):Prop:= ∃(ok:Bool) (C2:List TLit),zml M s inputs steps rule ps way=some ((C2,ok,()),(steps,()))∧(ok=true->clOK s.1 C2=true)
include hg hi hic hs hps hp
theorem zIL:okMadeW s inputs steps ps way 1:=by
 have _:=hg;have L:=zqv s inputs steps hs ps way hp hps 1 ps.length 0 [] (by omega) (by simp);rw [e0x,qk,qC] at L;have hl:(((ps.map (gtC steps)).length:Nat):Int)=(ps.length:Int):=by simp
 cases hA:((ps.length:Int)==0) with
 | false=>
  refine ⟨false,[],zS _ _ _ _ _ _ ?_,fun h=>by cases h⟩
  ·simp only [zG,za,L,hl,hA,qa,qd];rfl
 | true=>
 cases hB:((way.length:Int)==1) with
 | false=>
  refine ⟨false,[],zS _ _ _ _ _ _ ?_,fun h=>by cases h⟩
  ·simp only [zG,za,L,hl,hA,hB,qa,qd];rfl
 | true=>
 have hw1:0<way.length:=by
  have:(way.length:Int)=1:=by simpa using hB
  omega
 obtain ⟨w,hx⟩: ∃w:Int,idx way 0=some w:=⟨_,zd hw1⟩;have hin:z6 M w 0 (IntKind.i64.wrap ((inputs.length:Int)-1))=some ((decide ((0:Int)<=w)&&decide (w<=(inputs.length:Int)-1),()),()):=by rw [w64 (by omega) (by omega),zfw]
 by_cases h0:0<=w
 ·by_cases h1:w<(inputs.length:Int)
  ·obtain ⟨n,e,hn⟩:=zmO h0 h1;rw [qp h0,qp (by omega)] at hin;have hc:=hic _ (qi hn);obtain ⟨c1,c2⟩:=zm.1 hc;obtain ⟨o1,o2⟩:=zle inputs[n] (by omega) (fun x hx=>by have:=zbt (c2 x hx);omega);refine ⟨true,_,zS _ _ _ _ _ _ ?_,fun _=>zuY c1 c2⟩
   ·simp only [zG,za,L,hl,hA,hB,hx,hin,qa,qd,wc,qf,Bool.and_self];simp only [e,zd hn,o2,qa];rfl
  ·rw [qp h0,qA (by omega)] at hin;refine ⟨false,[],zS _ _ _ _ _ _ ?_,fun h=>by cases h⟩
   ·simp only [zG,za,L,hl,hA,hB,hx,hin,qa,qd];rfl
 ·rw [qA h0] at hin;refine ⟨false,[],zS _ _ _ _ _ _ ?_,fun h=>by cases h⟩
  ·simp only [zG,za,L,hl,hA,hB,hx,hin,qa,qd];rfl
include hsc
omit hi hic
theorem zIG:okMadeW s inputs steps ps way 2:=by
 have L:=zqv s inputs steps hs ps way hp hps 2 ps.length 0 [] (by omega) (by simp);rw [e0x,qk,qC] at L;have hl:(((ps.map (gtC steps)).length:Nat):Int)=(ps.length:Int):=by simp
 have d1:((2:Int)==1)=false:=rfl;have d2:((2:Int)==2)=true:=rfl;have d3:((2:Int)==3)=false:=rfl;have d4:((2:Int)==4)=false:=rfl;have d5:((2:Int)==5)=false:=rfl
 cases hA:((ps.length:Int)==2) with
 | false=>
  refine ⟨false,[],zS _ _ _ _ _ _ ?_,fun h=>by cases h⟩
  ·simp only [zG,za,L,hl,hA,d1,d2,d3,d4,d5,qa,qd,qf,qg,qe];rfl
 | true=>
 cases hB:((way.length:Int)==5) with
 | false=>
  refine ⟨false,[],zS _ _ _ _ _ _ ?_,fun h=>by cases h⟩
  ·simp only [zG,za,L,hl,hA,hB,d1,d2,d3,d4,d5,qa,qd,qf,qg,qe];rfl
 | true=>
 obtain ⟨a,b,rfl⟩: ∃a b,ps= [a,b]:=by
  have:ps.length=2:=by have:(ps.length:Int)=2:=(by simpa using hA);omega
  match ps,this with
  | [a,b],_=>exact ⟨a,b,rfl⟩
 obtain ⟨w0,w1,w2,w3,w4,rfl⟩: ∃w0 w1 w2 w3 w4,way= [w0,w1,w2,w3,w4]:=by
  have:way.length=5:=by have:(way.length:Int)=5:=(by simpa using hB);omega
  match way,this with
  | [w0,w1,w2,w3,w4],_=>exact ⟨w0,w1,w2,w3,w4,rfl⟩
 have m0:zI M 0 steps [a,b]=some ((gtC steps a,()),()):=zlK steps [a,b] hps 0 (by simp);have k0:clOK s.1 (gtC steps a)=true:=zlL s steps hsc [a,b] hps 0 (by simp);have m1:zI M 1 steps [a,b]=some ((gtC steps b,()),()):=zlK steps [a,b] hps 1 (by simp);have k1:clOK s.1 (gtC steps b)=true:=zlL s steps hsc [a,b] hps 1 (by simp);have i0:idx [w0,w1,w2,w3,w4] 0=some w0:=rfl;have i1:idx [w0,w1,w2,w3,w4] 1=some w1:=rfl;have i2:idx [w0,w1,w2,w3,w4] 2=some w2:=rfl;have i3:idx [w0,w1,w2,w3,w4] 3=some w3:=rfl;have i4:idx [w0,w1,w2,w3,w4] 4=some w4:=rfl;rw [show List.map (gtC steps) [a,b]= [gtC steps a,gtC steps b] from rfl] at L hl;obtain ⟨r,r1,r2,r3⟩:=zAY s hg (gtC steps a) (gtC steps b) k0 k1 w0 w1 w2 w3 w4;have g0:0<=(0:Int)∧(0:Int)<(([a,b].length:Nat):Int):=⟨by simp,by simp⟩;have j0: [gtC steps a,gtC steps b][(0:Int).toNat]?=some (gtC steps a):=rfl;have g1:0<=(1:Int)∧(1:Int)<(([a,b].length:Nat):Int):=⟨by simp,by simp⟩;have j1: [gtC steps a,gtC steps b][(1:Int).toNat]?=some (gtC steps b):=rfl;refine ⟨((r.1.2.1==0) || (r.1.2.1==5)),r.1.1,zS _ _ _ _ _ _ ?_,fun h=>r3.1⟩
 ·simp only [zG,za,L,hl,hA,hB,d1,d2,d3,d4,d5,qa,qd,qf,qg,qe];rw [qb g0];simp only [j0,qa];rw [qb g1];simp only [j1,qa];simp only [i0,i1,i2,i3,i4,r2,qa,qd];cases (r.1.2.1==0)<;>rfl
theorem zFx:okMadeW s inputs steps ps way 3:=by
 have L:=zqv s inputs steps hs ps way hp hps 3 ps.length 0 [] (by omega) (by simp);rw [e0x,qk,qC] at L;have hl:(((ps.map (gtC steps)).length:Nat):Int)=(ps.length:Int):=by simp
 have d1:((3:Int)==1)=false:=rfl;have d2:((3:Int)==2)=false:=rfl;have d3:((3:Int)==3)=true:=rfl;have d4:((3:Int)==4)=false:=rfl;have d5:((3:Int)==5)=false:=rfl
 cases hA:((ps.length:Int)==1) with
 | false=>
  refine ⟨false,[],zS _ _ _ _ _ _ ?_,fun h=>by cases h⟩
  ·simp only [zG,za,L,hl,hA,d1,d2,d3,d4,d5,qa,qd,qf,qg,qe];rfl
 | true=>
 cases hB:((way.length:Int)==1) with
 | false=>
  refine ⟨false,[],zS _ _ _ _ _ _ ?_,fun h=>by cases h⟩
  ·simp only [zG,za,L,hl,hA,hB,d1,d2,d3,d4,d5,qa,qd,qf,qg,qe];rfl
 | true=>
 obtain ⟨a,rfl⟩: ∃a,ps= [a]:=by
  have:ps.length=1:=by have:(ps.length:Int)=1:=(by simpa using hA);omega
  match ps,this with
  | [a],_=>exact ⟨a,rfl⟩
 obtain ⟨w0,rfl⟩: ∃w0,way= [w0]:=by
  have:way.length=1:=by have:(way.length:Int)=1:=(by simpa using hB);omega
  match way,this with
  | [w0],_=>exact ⟨w0,rfl⟩
 have m0:zI M 0 steps [a]=some ((gtC steps a,()),()):=zlK steps [a] hps 0 (by simp);have k0:clOK s.1 (gtC steps a)=true:=zlL s steps hsc [a] hps 0 (by simp);have i0:idx [w0] 0=some w0:=rfl;rw [show List.map (gtC steps) [a]= [gtC steps a] from rfl] at L hl;obtain ⟨r,r1,r2,r3⟩:=zyz s hg (gtC steps a) k0 w0;have g0:0<=(0:Int)∧(0:Int)<(([a].length:Nat):Int):=⟨by simp,by simp⟩;have j0: [gtC steps a][(0:Int).toNat]?=some (gtC steps a):=rfl;refine ⟨((r.1.2.1==0) || (r.1.2.1==5)),r.1.1,zS _ _ _ _ _ _ ?_,fun h=>r3.1⟩
 ·simp only [zG,za,L,hl,hA,hB,d1,d2,d3,d4,d5,qa,qd,qf,qg,qe];rw [qb g0];simp only [j0,qa];simp only [i0,r2,qa,qd];cases (r.1.2.1==0)<;>rfl
theorem zGw:okMadeW s inputs steps ps way 4:=by
 have L:=zqv s inputs steps hs ps way hp hps 4 ps.length 0 [] (by omega) (by simp);rw [e0x,qk,qC] at L;have hl:(((ps.map (gtC steps)).length:Nat):Int)=(ps.length:Int):=by simp
 have d1:((4:Int)==1)=false:=rfl;have d2:((4:Int)==2)=false:=rfl;have d3:((4:Int)==3)=false:=rfl;have d4:((4:Int)==4)=true:=rfl;have d5:((4:Int)==5)=false:=rfl
 cases hA:((ps.length:Int)==1) with
 | false=>
  refine ⟨false,[],zS _ _ _ _ _ _ ?_,fun h=>by cases h⟩
  ·simp only [zG,za,L,hl,hA,d1,d2,d3,d4,d5,qa,qd,qf,qg,qe];rfl
 | true=>
 cases hB:((way.length:Int)==4) with
 | false=>
  refine ⟨false,[],zS _ _ _ _ _ _ ?_,fun h=>by cases h⟩
  ·simp only [zG,za,L,hl,hA,hB,d1,d2,d3,d4,d5,qa,qd,qf,qg,qe];rfl
 | true=>
 obtain ⟨a,rfl⟩: ∃a,ps= [a]:=by
  have:ps.length=1:=by have:(ps.length:Int)=1:=(by simpa using hA);omega
  match ps,this with
  | [a],_=>exact ⟨a,rfl⟩
 obtain ⟨w0,w1,w2,w3,rfl⟩: ∃w0 w1 w2 w3,way= [w0,w1,w2,w3]:=by
  have:way.length=4:=by have:(way.length:Int)=4:=(by simpa using hB);omega
  match way,this with
  | [w0,w1,w2,w3],_=>exact ⟨w0,w1,w2,w3,rfl⟩
 have m0:zI M 0 steps [a]=some ((gtC steps a,()),()):=zlK steps [a] hps 0 (by simp);have k0:clOK s.1 (gtC steps a)=true:=zlL s steps hsc [a] hps 0 (by simp);have i0:idx [w0,w1,w2,w3] 0=some w0:=rfl;have i1:idx [w0,w1,w2,w3] 1=some w1:=rfl;have i2:idx [w0,w1,w2,w3] 2=some w2:=rfl;have i3:idx [w0,w1,w2,w3] 3=some w3:=rfl;rw [show List.map (gtC steps) [a]= [gtC steps a] from rfl] at L hl;obtain ⟨r,r1,r2,r3⟩:=zAo s hg (gtC steps a) k0 w0 w1 w2 w3 0;have g0:0<=(0:Int)∧(0:Int)<(([a].length:Nat):Int):=⟨by simp,by simp⟩;have j0: [gtC steps a][(0:Int).toNat]?=some (gtC steps a):=rfl;refine ⟨((r.1.2.1==0) || (r.1.2.1==5)),r.1.1,zS _ _ _ _ _ _ ?_,fun h=>r3.1⟩
 ·simp only [zG,za,L,hl,hA,hB,d1,d2,d3,d4,d5,qa,qd,qf,qg,qe];rw [qb g0];simp only [j0,qa];simp only [i0,i1,i2,i3,r2,qa,qd];cases (r.1.2.1==0)<;>rfl
omit hg hs hps hp hsc in
theorem zMN (P D:List (List TLit)) (hD:D.length<=1048576) (hDc: ∀c∈D,c.length<=1048576): ∀(m i:Nat) (units:List TLit),i+m=D.length->units.length<=i->zdI M steps s P units D D.length i=some (if (D.drop i).all isU=true then .inl (steps,s,P,units++(D.drop i).map hdL,()) else .inr (failC.1,(steps,()))):=by
 intro m
 induction m with
 | zero=>
  intro i units hk hu;obtain rfl:i=D.length:=by omega
  apply znx;simp only [zfP,za];rw [qc (by simp),qG]
  simp
 | succ m ih=>
  intro i units hk hu;have h:i<D.length:=by omega
  have hU:=(zxj D[i] (hDc _ (qi h))).2;apply znx;simp only [zfP,za];rw [qb (by simpa using h),zd h];simp only [hU,qa];rw [qj h,qK,qR]
  cases hq:isU D[i] with
  | false=>rfl
  | true=>
   have e:=zsz hq
   have hx:idx D[i] 0=some (hdL D[i]):=by
    rw [e];rfl
   simp only [qm,qg,qe,hx,qa,Bool.true_and,zg];rw [qb (by simp;omega),zb (by omega),ih (i+1) _ (by omega) (by simp;omega),qE];rfl
include hw
theorem zHd:okMadeW s inputs steps ps way 5:=by
 have L:=zqv s inputs steps hs ps way hp hps 5 ps.length 0 [] (by omega) (by simp);rw [e0x,qk,qC] at L;have hl:(((ps.map (gtC steps)).length:Nat):Int)=(ps.length:Int):=by simp
 have d1:((5:Int)==1)=false:=rfl;have d2:((5:Int)==2)=false:=rfl;have d3:((5:Int)==3)=false:=rfl;have d4:((5:Int)==4)=false:=rfl;have d5:((5:Int)==5)=true:=rfl;have hin:=zfw (ps.length:Int) 1 11;by_cases hA:1<=ps.length∧ps.length<=11
 case neg=>
  have e:(decide ((1:Int)<=(ps.length:Int))&&decide ((ps.length:Int)<=11))=false:=by
   rw [Bool.and_eq_false_iff];simp only [decide_eq_false_iff_not];omega
  rw [e] at hin;refine ⟨false,[],zS _ _ _ _ _ _ ?_,fun h=>by cases h⟩
  ·simp only [zG,za,L,hl,hin,d1,d2,d3,d4,d5,qa,qd,qf,qg,qe];rfl
 case pos=>
 rw [qp (by omega),qp (by omega)] at hin;have n1:decide ((ps.length:Int)<1)=false:=by simp;omega
 have n2:decide ((ps.length:Int)>11)=false:=by simp;omega
 by_cases hB:way.length=0
 case neg=>
  have b1:decide ((way.length:Int)>0)=true:=qp (by omega);have b2:((way.length:Int)==0)=false:=beq_eq_false_iff_ne.2 (by omega);refine ⟨false,[],zS _ _ _ _ _ _ ?_,fun h=>by cases h⟩
  ·simp only [zG,za,L,hl,hin,b2,d1,d2,d3,d4,d5,qa,qd,qf,qg,qe];rfl
 case pos=>
 have b1:decide ((way.length:Int)>0)=false:=qA (by omega);have b2:((way.length:Int)==0)=true:=beq_iff_eq.2 (by omega);have hp0:0<ps.length:=by omega
 have m0:=zlK steps ps hps 0 hp0;have k0:=zlL s steps hsc ps hps 0 hp0;rw [e0x] at m0
 have hDrop:((ps.map (gtC steps)).take (Int.toNat ((ps.map (gtC steps)).length:Int))).drop (Int.toNat (1:Int))=(ps.drop 1).map (gtC steps):=by
  rw [qo,List.take_length,show (1:Int).toNat=1 from rfl,List.map_drop]
 have hDrop':((ps.map (gtC steps)).take (Int.toNat (ps.length:Int))).drop (Int.toNat (1:Int))=(ps.drop 1).map (gtC steps):=by rw [<-hl];exact hDrop
 have hmem: ∀c∈(ps.drop 1).map (gtC steps),clOK s.1 c=true:=by
  intro c hc;obtain ⟨k,hk,rfl⟩:=qQ.1 hc;obtain ⟨i,hi,rfl⟩:=List.getElem_of_mem (List.mem_of_mem_drop hk);exact zlL s steps hsc ps hps i hi
 have uS:=zMN s steps (ps.map (gtC steps)) ((ps.drop 1).map (gtC steps)) (by simp;omega) (fun c hc=>by have:=(zm.1 (hmem c hc)).1;omega) ((ps.drop 1).map (gtC steps)).length 0 [] (by omega) (by simp);rw [e0x,qk] at uS;have g1:0<=(1:Int)∧(1:Int)<=(ps.length:Int)∧(ps.length:Int)<=(ps.length:Int):=by omega
 cases hall:((ps.drop 1).map (gtC steps)).all isU with
 | false=>
  rw [hall,qc (by simp)] at uS;refine ⟨false,[],zS _ _ _ _ _ _ ?_,fun h=>by cases h⟩
  ·simp only [zG,za,L,hl,hin,b2,d1,d2,d3,d4,d5,qa,qd,qf,qg,qe,Bool.and_self];rw [qb g1,hDrop',uS]
   rfl
 | true=>
  rw [hall,qb rfl] at uS;rw [qC] at uS;have hUl:(((ps.drop 1).map (gtC steps)).map hdL).length<=1000:=by simp;omega
  have hUx: ∀x∈((ps.drop 1).map (gtC steps)).map hdL,litOK s.1 x=true:=by
   intro x hx;obtain ⟨c,hc,rfl⟩:=qQ.1 hx;have e:=zsz (List.all_eq_true.1 hall c hc);exact (zm.1 (hmem c hc)).2 _ (by rw [e];exact qM.2 rfl)
  obtain ⟨C,z1,z2,hC,eC,r1,r2⟩:=zza s _ hg hUl hUx (gtC steps ps[0]) k0
  have j0:idx (ps.map (gtC steps)) 0=some (gtC steps ps[0]):=by
   have:=zd (xs:=ps.map (gtC steps)) (i:=0) (by simpa using hp0);rw [List.getElem_map] at this;exact this
  refine ⟨true,C,zS _ _ _ _ _ _ ?_,fun _=>hC⟩
  ·simp only [zG,za,L,hl,hin,b2,d1,d2,d3,d4,d5,qa,qd,qf,qg,qe,Bool.and_self];rw [qb g1,hDrop',uS];simp only [qa,qd,hl];rw [j0];simp only [qa,r2];rfl
include hi hic
theorem zK3 (rule:Int):okMadeW s inputs steps ps way rule:=by
 by_cases h1:rule=1
 ·subst h1;exact zIL s hg inputs hi hic steps hs ps way hp hps
 by_cases h2:rule=2
 ·subst h2;exact zIG s hg inputs steps hs hsc ps way hp hps
 by_cases h3:rule=3
 ·subst h3;exact zFx s hg inputs steps hs hsc ps way hp hps
 by_cases h4:rule=4
 ·subst h4;exact zGw s hg inputs steps hs hsc ps way hp hps
 by_cases h5:rule=5
 ·subst h5;exact zHd s hg inputs steps hs hsc ps way hp hw hps
 have L:=zqv s inputs steps hs ps way hp hps rule ps.length 0 [] (by omega) (by simp);rw [e0x,qk,qC] at L;have d1:(rule==1)=false:=by simpa using h1
 have d2:(rule==2)=false:=by simpa using h2
 have d3:(rule==3)=false:=by simpa using h3
 have d4:(rule==4)=false:=by simpa using h4
 have d5:(rule==5)=false:=by simpa using h5
 refine ⟨false,[],zS _ _ _ _ _ _ ?_,fun h=>by cases h⟩
 ·simp only [zG,za,L,d1,d2,d3,d4,d5,qa,qd,qf,qg,qe];rfl
end
theorem zFq (v:Nat) (hv:v<=1000) (t:List Int): ∃t',zpW M v t=some ((t',()),())∧t'.length<=t.length:=by
 by_cases h:(((t.length:Nat):Int)==1)=true
 ·have hl:t.length=1:=by have:((t.length:Nat):Int)=1:=(by simpa using h);omega
  match t,hl with
  | [x],_=>
   have i0:idx [x] 0=some x:=rfl;by_cases h2:(x==IntKind.i64.wrap ((-1:Int)-(v:Int)))=true
   ·refine ⟨[],ztW _ _ ?_,by simp⟩;simp only [zmK,i0,qa];rw [qb h,qb h2]
   ·refine ⟨[x],ztW _ _ ?_,by simp⟩;simp only [zmK,i0,qa];rw [qb h,qc h2]
 ·refine ⟨t,ztW _ _ ?_,ql _⟩;simp only [zmK];rw [qc h]
theorem zFA: ∀(k i:Nat) (b:List (List Int)),i+k=b.length->b.length<=1000-> ∃b',zjr M b b.length i=some (.inl (b',())):=by
 intro k
 induction k with
 | zero=>
  intro i b hi hb;obtain rfl:i=b.length:=by omega
  refine ⟨b,zut _ _ _ ?_⟩;simp only [zlE]
  rw [qc (by simp)]
 | succ k ih=>
  intro i b hi hb;have h1:i<b.length:=by omega
  obtain ⟨t',e,_⟩:=zFq i (by omega) b[i];obtain ⟨b',e2⟩:=ih (i+1) (b.set i t') (by rw [List.length_set];omega) (by rw [List.length_set];exact hb);rw [List.length_set] at e2;refine ⟨b',zut _ _ _ ?_⟩;simp only [zlE];rw [qb (by simpa using h1),qb (by omega),qo,qu h1];simp only [qa,e];rw [qb (by omega),zb (by omega)];exact e2
theorem zFo (b:List (List Int)) (hl:b.length<=1000) (hx: ∀t∈b,t.length<=1048576): ∀(k i:Nat) (o:List (List Int)),i+k=b.length->o.length<=i->zjM M o b b.length i=some (.inl (o++b.drop i,())):=by
 intro k
 induction k with
 | zero=>
  intro i o hi ho;obtain rfl:i=b.length:=by omega
  apply zuv;simp only [zlq]
  rw [qc (by simp),qG,qP]
 | succ k ih=>
  intro i o hi ho;have h1:i<b.length:=by omega
  apply zuv;simp only [zlq];rw [qb (by simpa using h1),zd h1];simp only [qa,ziU b[i] (hx _ (qi h1))];rw [qb (by simp;omega),zb (by omega),ih (i+1) _ (by omega) (by simp;omega),qj h1,qE];rfl
theorem zJQ (σ:Int->List Int) (hσ: ∀v,(σ v).length<=40):zpR M (tabS σ)=some ((tabS σ,()),()):=by
 apply zDL
 have:=zFo (tabS σ) (by rw [zd3];omega) (fun t ht=>by
  obtain ⟨k,_,rfl⟩:=zzH ht;have:=hσ (k:Int);omega) (tabS σ).length 0 [] (by omega) (by simp)
 rw [e0x] at this;simp only [ztH,this,qa,qd,qC,qk]
def Ext (σ τ:Int->List Int):Prop:= ∀v,σ v≠ []->τ v=σ v
theorem Ext.trans {σ τ ρ:Int->List Int} (h:Ext σ τ) (k:Ext τ ρ):Ext σ ρ:=fun v hv=>by
  have:=h v hv;rw [k v (by rw [this];exact hv),this]
def MatT (τ:Int->List Int) (p t:List Int):Prop:=(∀n∈p,n<0->τ (-1-n)≠ [])∧apS τ p=t
theorem zGe {σ τ:Int->List Int} (h:Ext σ τ): ∀p:List Int,(∀n∈p,n<0->σ (-1-n)≠ [])->apS τ p=apS σ p
  | [],_=>rfl
  | n::p,hn=>by
    rw [zdg,zdg,zGe h p (fun m hm=>hn m (by simp [hm]))];congr 1;by_cases h0:n<0
    · have h1:=hn n (by simp) h0;have h2:=h _ h1;rw [zis h0 h1,zis h0 (by rw [h2];exact h1),h2]
    · rw [zmM (by omega),zmM (by omega)]
theorem MatT.ext {σ τ:Int->List Int} {p t:List Int} (h:MatT σ p t) (k:Ext σ τ):MatT τ p t:=
  ⟨fun n hn h0=>by have:=h.1 n hn h0;rw [k _ this];exact this,by rw [zGe k p h.1];exact h.2⟩
def SubB (τ:Int->List Int) (cs d:List TLit):Prop:= ∀x∈cs,∃y∈d,∃n:Int,y.1=x.1∧MatT τ x.2.1 (sd y n).1∧MatT τ x.2.2.1 (sd y n).2
section
variable (s : TSign) (hg : gS s.1 = true) (c d : List TLit) (lc : c.length <= 1000) (hc : ∀ x ∈ c, litOK s.1 x = true) (ld : d.length <= 1000) (hd : ∀ x ∈ d, litOK s.1 x = true)
def both (k:Nat) (σ:Int->List Int):Prop:=(zeC M s (tabS σ) (c.drop k) d=some failU∧zgw M s c d k (tabS σ)=some failU)∨
  ∃τ,okB s.1 τ∧Ext σ τ∧SubB τ (c.drop k) d∧zeC M s (tabS σ) (c.drop k) d=some ((tabS τ,true,()),())∧zgw M s c d k (tabS σ)=some ((tabS τ,true,()),())
include hg lc hc ld hd
omit ld in
theorem zLi (k:Nat) (hk:k<c.length) (σ:Int->List Int) (hσ:okB s.1 σ) (ih: ∀σ,okB s.1 σ->both s c d (k+1) σ) (i:Nat) (hi:i<d.length) (hp:d[i].1=c[k].1): ∀(m n:Nat),n+m=2->
    (zaO M (tabS σ) (c.drop k) d s d[i] d d.length i n=some (.inl (tabS σ,c.drop k,d,s,d,(d.length:Int),(i:Int),()))∧
     zaH M c d k (tabS σ) s d[i] n d d.length i=some (.inl (c,d,(k:Int),tabS σ,s,d,(d.length:Int),(i:Int),())))∨
    ∃τ,okB s.1 τ∧Ext σ τ∧SubB τ (c.drop k) d∧zaO M (tabS σ) (c.drop k) d s d[i] d d.length i n=some (.inr ((tabS τ,true,()),()))∧
     zaH M c d k (tabS σ) s d[i] n d d.length i=some (.inr ((tabS τ,true,()),())):=by
  have hx:=z8.1 (hc _ (qi hk));have hckd:=qj hk
  have i0:idx (c.drop k) 0=some c[k]:=by
    rw [hckd];exact zd (xs:=c[k]::c.drop (k+1)) (i:=0) (Nat.succ_pos _)
  have ck:=zd hk;have cpy:=zJQ σ hσ.len;obtain ⟨t1,t2⟩:=zf.1 hx.1;obtain ⟨t3,t4⟩:=zf.1 hx.2;intro m
  induction m with
  | zero=>
    intro n hn;obtain rfl:n=2:=by omega
    refine .inl ⟨zeZ _ _ _ _ _ _ _ _ _ ?_,zdL _ _ _ _ _ _ _ _ _ _ ?_⟩
    · simp only [za6,za];rw [qc (by simp)]
    · simp only [zaY,za]
      rw [qc (by simp)]
  | succ m ihm=>
    intro n hn;have hn2:decide ((n:Int)<2)=true:=by simp;omega
    obtain ⟨s1,s2⟩:=zkm d[i] (n:Int);have sT:=zkC (hd _ (qi hi)) (n:Int);obtain ⟨u1,u2⟩:=zf.1 sT.1;obtain ⟨u3,u4⟩:=zf.1 sT.2;have hpe:(d[i].1==c[k].1)=true:=by simpa using hp
    have next:za6 M (tabS σ) (c.drop k) d s d[i] d d.length i n=zaO M (tabS σ) (c.drop k) d s d[i] d d.length i ((n+1:Nat):Int)->
        zaY M c d k (tabS σ) s d[i] n d d.length i=zaH M c d k (tabS σ) s d[i] ((n+1:Nat):Int) d d.length i->
        (zaO M (tabS σ) (c.drop k) d s d[i] d d.length i n=some (.inl (tabS σ,c.drop k,d,s,d,(d.length:Int),(i:Int),()))∧
         zaH M c d k (tabS σ) s d[i] n d d.length i=some (.inl (c,d,(k:Int),tabS σ,s,d,(d.length:Int),(i:Int),())))∨
        ∃τ,okB s.1 τ∧Ext σ τ∧SubB τ (c.drop k) d∧zaO M (tabS σ) (c.drop k) d s d[i] d d.length i n=some (.inr ((tabS τ,true,()),()))∧
         zaH M c d k (tabS σ) s d[i] n d d.length i=some (.inr ((tabS τ,true,()),())):=by
      intro hI hS;rcases ihm (n+1) (by omega) with ⟨a1,a2⟩ | ⟨τ,a0,ae,ab,a1,a2⟩
      · exact .inl ⟨zeZ _ _ _ _ _ _ _ _ _ (hI.trans a1),zdL _ _ _ _ _ _ _ _ _ _ (hS.trans a2)⟩
      · exact .inr ⟨τ,a0,ae,ab,zeZ _ _ _ _ _ _ _ _ _ (hI.trans a1),zdL _ _ _ _ _ _ _ _ _ _ (hS.trans a2)⟩
    rcases zAI s hg c[k].2.1 (sd d[i] (n:Int)).1 (by omega) u1 σ hσ t2 u2 with ⟨b1,b2⟩ | ⟨τ1,h1,m1,b1,b2⟩
    · refine next ?_ ?_
      · simp only [za6,za,zg,hn2,s1,i0,b1,failU,qa,qf,qg,qe,qd,qO];rw [zb (by omega)]
      · simp only [zaY,za,zg,hn2,ck,hpe,s2,cpy,b2,failU,qa,qf,qg,qe,qd,qO];rw [zb (by omega)]
    · rcases zAI s hg c[k].2.2.1 (sd d[i] (n:Int)).2 (by omega) u3 τ1 h1 t4 u4 with ⟨b3,b4⟩ | ⟨τ2,h2,m2,b3,b4⟩
      · refine next ?_ ?_
        · simp only [za6,za,zg,hn2,s1,i0,b1,b3,failU,qa,qf,qg,qe,qd,qO];rw [zb (by omega)]
        · simp only [zaY,za,zg,hn2,ck,hpe,s2,cpy,b2,b4,failU,qa,qf,qg,qe,qd,qO,qm];rw [zb (by omega)]
      · have g1:0<=(1:Int)∧(1:Int)<=(((c.drop k).length:Nat):Int)∧(((c.drop k).length:Nat):Int)<=(((c.drop k).length:Nat):Int):=by
          rw [List.length_drop];omega
        have cut:((c.drop k).take (Int.toNat (((c.drop k).length:Nat):Int))).drop (Int.toNat 1)=c.drop (k+1):=by
          rw [qo,List.take_length,show (Int.toNat 1)=1 from rfl,List.drop_drop]
        rcases ih τ2 h2 with ⟨b5,b6⟩ | ⟨τ,h3,e3,sb,b5,b6⟩
        · refine next ?_ ?_
          · simp only [za6,za,zg,hn2,s1,i0,b1,b3,qa,qf,qg,qe,qd,qm];rw [qb g1,cut,b5];simp only [failU,qa,qg,qe,qd];rw [zb (by omega)]
          · simp only [zaY,za,zg,hn2,ck,hpe,s2,cpy,b2,b4,qa,qf,qg,qe,qd,qm];rw [zb (by omega),b6];simp only [failU,qa,qg,qe,qd];rw [zb (by omega)]
        · have x1:Ext σ τ1:=m1.1;have x2:Ext τ1 τ2:=m2.1;have q1:MatT τ c[k].2.1 (sd d[i] (n:Int)).1:=(MatT.ext ⟨m1.2.1,m1.2.2⟩ x2).ext e3;have q2:MatT τ c[k].2.2.1 (sd d[i] (n:Int)).2:=MatT.ext ⟨m2.2.1,m2.2.2⟩ e3;refine .inr ⟨τ,h3,(x1.trans x2).trans e3,?_,zeZ _ _ _ _ _ _ _ _ _ ?_,zdL _ _ _ _ _ _ _ _ _ _ ?_⟩
          · intro x hx;rw [hckd] at hx;rcases qz.1 hx with rfl | hx
            · exact ⟨d[i],qi hi,(n:Int),hp,q1,q2⟩
            · exact sb x hx
          · simp only [za6,za,zg,hn2,s1,i0,b1,b3,qa,qf,qg,qe,qd,qm];rw [qb g1,cut,b5];simp only [qa,qf,qY,qF]
          · simp only [zaY,za,zg,hn2,ck,hpe,s2,cpy,b2,b4,qa,qf,qg,qe,qd,qm];rw [zb (by omega),b6];simp only [qa,qf,qY,qF]
theorem zKg (k:Nat) (hk:k<c.length) (σ:Int->List Int) (hσ:okB s.1 σ) (ih: ∀σ,okB s.1 σ->both s c d (k+1) σ): ∀(m i:Nat),i+m=d.length->
    (zbM M (tabS σ) (c.drop k) d s d d.length i=some (.inl ())∧zcl M c d k (tabS σ) s d d.length i=some (.inl ()))∨
    ∃τ,okB s.1 τ∧Ext σ τ∧SubB τ (c.drop k) d∧zbM M (tabS σ) (c.drop k) d s d d.length i=some (.inr ((tabS τ,true,()),()))∧zcl M c d k (tabS σ) s d d.length i=some (.inr ((tabS τ,true,()),())):=by
  have hckd:=qj hk
  have i0:idx (c.drop k) 0=some c[k]:=by
    rw [hckd];exact zd (xs:=c[k]::c.drop (k+1)) (i:=0) (Nat.succ_pos _)
  have ck:=zd hk;intro m
  induction m with
  | zero=>
    intro i hi;obtain rfl:i=d.length:=by omega
    refine .inl ⟨zcR _ _ _ _ _ _ _ ?_,zdt _ _ _ _ _ _ _ _ ?_⟩
    · simp only [zby];rw [qc (by simp)]
    · simp only [zb0]
      rw [qc (by simp)]
  | succ m ihm=>
    intro i him;have hi:i<d.length:=by omega
    have hlt:decide ((i:Int)<(d.length:Int))=true:=by simp;omega
    have di:=zd hi;by_cases hp:d[i].1=c[k].1
    · have hpe:(d[i].1==c[k].1)=true:=by simpa using hp
      have hin:=zLi s hg c d lc hc hd k hk σ hσ ih i hi hp 2 0 (by omega);rw [e0x] at hin;rcases hin with ⟨b1,b2⟩ | ⟨τ,h1,e1,sb,b1,b2⟩
      · have hI: ∀X,zbM M (tabS σ) (c.drop k) d s d d.length ((i+1:Nat):Int)=X->zby M (tabS σ) (c.drop k) d s d d.length i=X:=by
          intro X hX;simp only [zby,hlt,di,i0,hpe,za,zg,b1,qa,qf,qm,qg,qe,qd];rw [zb (by omega)];exact hX
        have hS: ∀X,zcl M c d k (tabS σ) s d d.length ((i+1:Nat):Int)=X->zb0 M c d k (tabS σ) s d d.length i=X:=by
          intro X hX;simp only [zb0,hlt,di,za,zg,b2,qa,qf,qd];rw [zb (by omega)];exact hX
        rcases ihm (i+1) (by omega) with ⟨a1,a2⟩ | ⟨τ,a0,ae,ab,a1,a2⟩
        · exact .inl ⟨zcR _ _ _ _ _ _ _ (hI _ a1),zdt _ _ _ _ _ _ _ _ (hS _ a2)⟩
        · exact .inr ⟨τ,a0,ae,ab,zcR _ _ _ _ _ _ _ (hI _ a1),zdt _ _ _ _ _ _ _ _ (hS _ a2)⟩
      · refine .inr ⟨τ,h1,e1,sb,zcR _ _ _ _ _ _ _ ?_,zdt _ _ _ _ _ _ _ _ ?_⟩
        · simp only [zby,hlt,di,i0,hpe,za,zg,b1,qa,qf,qm,qg,qe,qF,qY]
        · simp only [zb0,hlt,di,za,zg,b2,qa,qf,qF]
    · have hpe:(d[i].1==c[k].1)=false:=by simpa using hp
      have hskip:zaH M c d k (tabS σ) s d[i] 0 d d.length i=some (.inl (c,d,(k:Int),tabS σ,s,d,(d.length:Int),(i:Int),())):=by
        apply zdL;simp only [zaY,za,ck,hpe,qa,qg,qe];rw [qb (by decide)]
      have hI: ∀X,zbM M (tabS σ) (c.drop k) d s d d.length ((i+1:Nat):Int)=X->zby M (tabS σ) (c.drop k) d s d d.length i=X:=by
        intro X hX;simp only [zby,hlt,di,i0,hpe,za,zg,qa,qf,qO,qd];rw [zb (by omega)];exact hX
      have hS: ∀X,zcl M c d k (tabS σ) s d d.length ((i+1:Nat):Int)=X->zb0 M c d k (tabS σ) s d d.length i=X:=by
        intro X hX;simp only [zb0,hlt,di,za,zg,hskip,qa,qf,qd];rw [zb (by omega)];exact hX
      rcases ihm (i+1) (by omega) with ⟨a1,a2⟩ | ⟨τ,a0,ae,ab,a1,a2⟩
      · exact .inl ⟨zcR _ _ _ _ _ _ _ (hI _ a1),zdt _ _ _ _ _ _ _ _ (hS _ a2)⟩
      · exact .inr ⟨τ,a0,ae,ab,zcR _ _ _ _ _ _ _ (hI _ a1),zdt _ _ _ _ _ _ _ _ (hS _ a2)⟩
theorem zJV: ∀(m k:Nat) (σ:Int->List Int),k+m=c.length->okB s.1 σ->both s c d k σ:=by
  intro m
  induction m with
  | zero=>
    intro k σ hk hσ;obtain rfl:k=c.length:=by omega
    refine .inr ⟨σ,hσ,fun _ _=>rfl,(by rw [qG];intro x hx;cases hx),znj _ _ _ _ ?_,zo4 _ _ _ _ _ ?_⟩
    · simp only [zgX,qG];rfl
    · simp only [ziC]
      rw [qb (by simp)]
  | succ m ih=>
    intro k σ hk hσ;have h1:k<c.length:=by omega
    have hm:=zKg s hg c d lc hc ld hd k h1 σ hσ (fun σ hσ=>ih (k+1) σ (by omega) hσ) d.length 0 (by omega);rw [e0x] at hm;have n1: ¬((((c.drop k).length:Nat):Int)==0)=true:=by rw [List.length_drop];simp;omega
    have n2: ¬((k:Int)==(c.length:Int))=true:=by simp;omega
    rcases hm with ⟨a1,a2⟩ | ⟨τ,a0,ae,ab,a1,a2⟩
    · refine .inl ⟨znj _ _ _ _ ?_,zo4 _ _ _ _ _ ?_⟩
      · simp only [zgX];rw [qc n1];simp only [za,a1,qa,qd];rfl
      · simp only [ziC];rw [qc n2];simp only [za,a2,qa,qd];rfl
    · refine .inr ⟨τ,a0,ae,ab,znj _ _ _ _ ?_,zo4 _ _ _ _ _ ?_⟩
      · simp only [zgX];rw [qc n1];simp only [za,a1,qa,qF]
      · simp only [ziC];rw [qc n2];simp only [za,a2,qa,qF]
end
section
variable (s : TSign) (hg : gS s.1 = true)
include hg
theorem zHg (c d:List TLit) (hc:clOK s.1 c=true) (hd:clOK s.1 d=true): ∃(b:Bool) (o1 o2:List (List Int)),zd5 M s c d=some ((o1,b,()),())∧zn7 M s c d=some ((o2,b,()),())∧(b=true-> ∃τ,okB s.1 τ∧SubB τ c d):=by
 obtain ⟨c1,c2⟩:=zm.1 hc;obtain ⟨d1,d2⟩:=zm.1 hd;have hin:=zfw (c.length:Int) 1 4;have h12:0<=(12:Int)∧((24:Nat):Int)*(12:Int)<=140737488355328∧True:=⟨by decide,by decide,trivial⟩;have h12n:(12:Int).toNat=12:=rfl;by_cases h:1<=c.length∧c.length<=4∧c.length<=d.length
 ·obtain ⟨h1,h2,h3⟩:=h;rw [qp (by omega),qp (by omega)] at hin;have g1:decide ((c.length:Int)<1)=false:=by simp;omega
  have g2:decide ((c.length:Int)>4)=false:=by simp;omega
  have g3:decide ((c.length:Int)>(d.length:Int))=false:=by simp;omega
  have rep:List.replicate 12 ([]:List Int)=tabS (fun _=> []):=rfl;have all:=zJV s hg c d (by omega) c2 (by omega) d2 c.length 0 (fun _=> []) (by omega) (fun v h=>absurd rfl h);unfold both at all;rw [e0x,qk] at all;rcases all with ⟨a1,a2⟩ | ⟨τ,a0,_,sb,a1,a2⟩
  ·refine ⟨false,[],[],zmr _ _ _ ?_,zvl _ _ _ ?_,fun h=>by cases h⟩
   ·simp only [zfU,g1,g2,g3,h12n,rep,za,a1,failU,qa,qg,qe];rw [qb h12];rfl
   ·simp only [zn3,hin,g3,h12n,rep,za,a2,failU,qa,qg,qe];rw [qc (by simp),qb h12];rfl
  ·have hb:=zIM τ (fun v=>by have:=a0.len v;omega);obtain ⟨b',lp⟩:=zFA (tabS τ).length 0 (tabS τ) (by omega) (by rw [zd3];omega);rw [e0x] at lp;refine ⟨true,tabS (bareS τ),b',zmr _ _ _ ?_,zvl _ _ _ ?_,fun _=>⟨τ,a0,sb⟩⟩
   ·simp only [zfU,g1,g2,g3,h12n,rep,za,a1,qa,qg,qe];rw [qb h12];simp only [qm,qg,qe,hb,qa]
   ·simp only [zn3,hin,g3,h12n,rep,za,a2,qa,qg,qe];rw [qc (by simp),qb h12];simp only [qm,qg,qe,lp,qa,qd]
 ·refine ⟨false,[],[],zmr _ _ _ ?_,zvl _ _ _ ?_,fun h=>by cases h⟩
  ·simp only [zfU];by_cases h1:c.length<1
   ·rw [qb (by simp;omega)]
   ·rw [qc (by simp;omega)];by_cases h2:4<c.length
    ·rw [qb (by simp;omega)]
    ·rw [qc (by simp;omega),qb (by simp;omega)]
  ·simp only [zn3,hin,qa];by_cases h1:c.length<1
   ·rw [qA (show ¬(1:Int)<=(c.length:Int) by omega)];rfl
   ·rw [qp (show (1:Int)<=(c.length:Int) by omega)];by_cases h2:4<c.length
    ·rw [qA (show ¬(c.length:Int)<=4 by omega)];rfl
    ·rw [qp (show (c.length:Int)<=4 by omega),qc (by simp),qb (by simp;omega)]
theorem zHP {w:TWorld} (hw:wOK s.1 w=true) {c d:List TLit} (hc: ∀x∈c,litOK s.1 x=true) {τ:Int->List Int} (hτ:okB s.1 τ) (hs:SubB τ c d) (h:HOL s.1 w c):HOL s.1 w d:=by
 have hTτ: ∀v,τ v≠ []->Tm s.1 (τ v):=fun v h=>(zf.1 (hτ v h)).2
 intro env he;have h1:=h _ (zwR hg w env hTτ hw he);simp only [hlv,List.any_eq_true] at h1 ⊢;obtain ⟨x,hx,hv⟩:=h1;obtain ⟨y,hy,n,e1,e2,e3⟩:=hs x hx;refine ⟨y,hy,?_⟩;rw [<-zKL hg env hTτ (hc x hx)] at hv;rw [zzj y n,<-e2.2,<-e3.2,e1];exact hv
end
def TautP (c:List TLit):Prop:=(∃x∈c,x.1=true∧x.2.1=x.2.2.1)∨ ∃x∈c,∃y∈c,x.1≠y.1∧sameT x y=true
theorem zHb {a:List Int} {w:TWorld} {c:List TLit} (h:TautP c):HOL a w c:=by
 intro env he;simp only [hlv,List.any_eq_true];rcases h with ⟨x,hx,e1,e2⟩ | ⟨x,hx,y,hy,e1,e2⟩
 ·exact ⟨x,hx,by simp [lhv,e1,e2]⟩
 ·have e3:(vl a w env x.2.1==vl a w env x.2.2.1)=(vl a w env y.2.1==vl a w env y.2.2.1):=by
   simp only [sameT,wb,qq,qt] at e2;rcases e2 with ⟨q1,q2⟩ | ⟨q1,q2⟩
   ·rw [q1,q2]
   ·rw [q1,q2,Bool.eq_iff_iff,beq_iff_eq,beq_iff_eq];exact eq_comm
  by_cases hx1:lhv a w env x=true
  ·exact ⟨x,hx,hx1⟩
  ·refine ⟨y,hy,?_⟩;unfold lhv at hx1 ⊢;rw [e3] at hx1
   revert hx1 e1
   cases (vl a w env y.2.1==vl a w env y.2.2.1)<;>cases x.1<;>cases y.1<;>simp
theorem zJc (s:TSign) (hs:s.1.length<=1048576) (t:List Int) (ht:t.length<=1048576): ∀(k i:Nat) (need:Int),i+k=t.length-> ∃r,zhW M t i s need=some r:=by
 intro k
 induction k with
 | zero=>
  intro i need hi;obtain rfl:i=t.length:=by omega
  by_cases h:need>0
  ·refine ⟨.inr ((-1,()),()),zdC _ _ _ _ ?_⟩;simp only [zcn];rw [qb (by simpa using h),qb (by simp)]
  ·refine ⟨.inl ((t.length:Int),()),zdC _ _ _ _ ?_⟩;simp only [zcn]
   rw [qc (by simpa using h)]
 | succ k ih=>
  intro i need hi;have h1:i<t.length:=by omega
  by_cases h:need>0
  ·have hin:z6 M t[i] (-12) (IntKind.i64.wrap ((s.1.length:Int)-1))=some ((decide (-12<=t[i])&&decide (t[i]<=(s.1.length:Int)-1),()),()):=by rw [w64 (by omega) (by omega),zfw]
   cases hb:(decide (-12<=t[i])&&decide (t[i]<=(s.1.length:Int)-1)) with
   | false=>
    rw [hb] at hin;refine ⟨.inr ((-1,()),()),zdC _ _ _ _ ?_⟩;simp only [zcn];rw [qb (by simpa using h),qc (by simp;omega),zd h1];simp only [qa,hin]
    rfl
   | true=>
    rw [hb] at hin;simp only [qq,qt] at hb;by_cases h0:0<=t[i]
    ·obtain ⟨n,hn⟩: ∃n:Nat,t[i]=(n:Int):=⟨t[i].toNat,by omega⟩;have hs2:idx s.1 t[i]=some (s.1[n]'(by omega)):=by rw [hn];exact zd (by omega)
     obtain ⟨r,hr⟩:=ih (i+1) (IntKind.i64.wrap (IntKind.i64.wrap (need-1)+s.1[n]'(by omega))) (by omega);refine ⟨r,zdC _ _ _ _ ?_⟩;simp only [zcn];rw [qb (by simpa using h),qc (by simp;omega),zd h1];simp only [qa,hin,qm,qg,qe];rw [qb (by simpa using h0),hs2];simp only [qa,qd,za];rw [zb (by omega)];exact hr
    ·obtain ⟨r,hr⟩:=ih (i+1) (IntKind.i64.wrap (need-1)) (by omega);refine ⟨r,zdC _ _ _ _ ?_⟩;simp only [zcn];rw [qb (by simpa using h),qc (by simp;omega),zd h1];simp only [qa,hin,qm,qg,qe];rw [qc (by simpa using h0)];simp only [qa,qd,za];rw [zb (by omega)];exact hr
  ·refine ⟨.inl ((i:Int),()),zdC _ _ _ _ ?_⟩;simp only [zcn];rw [qc (by simpa using h)]
theorem zDl (s:TSign) (hs:s.1.length<=1048576) (t:List Int) (ht:t.length<=1048576): ∃b:Bool,zdV M s t=some ((b,()),()):=by
 have hin:=zfw (t.length:Int) 1 40
 cases hb:(decide ((1:Int)<=(t.length:Int))&&decide ((t.length:Int)<=40)) with
 | false=>
  rw [hb] at hin;refine ⟨false,zue _ _ ?_⟩;simp only [zmV,hin,qa]
  rfl
 | true=>
  rw [hb] at hin;obtain ⟨r,hr⟩:=zJc s hs t ht t.length 0 1 (by omega);rw [e0x] at hr
  have he: ∃z:Int,zjL M s t 0=some ((z,()),()):=by
   cases r with
   | inl y=>
    refine ⟨y.1,zu7 _ _ _ ?_⟩
    simp only [zn6,za,hr,qa,qd]
   | inr y=>
    refine ⟨y.1.1,zu7 _ _ _ ?_⟩;simp only [zn6,za,hr,qa,qF]
  obtain ⟨z,hz⟩:=he;refine ⟨z==(t.length:Int),zue _ _ ?_⟩;simp only [zmV,hin,za,hz,qa,qf]
theorem zJ5 (s:TSign) (hs:s.1.length<=1048576) (x:TLit) (hx:smL x): ∃b:Bool,zos M s x=some ((b,()),()):=by
 obtain ⟨a,ha⟩:=zDl s hs x.2.1 hx.1;obtain ⟨b,hb⟩:=zDl s hs x.2.2.1 hx.2;refine ⟨a&&b,zyF _ _ ?_⟩;simp only [zqP,za,ha,hb,qa];cases a<;>rfl
theorem zAi (s:TSign) (hs:s.1.length<=1048576) (c:List TLit) (hl:c.length<=1048576) (hc: ∀x∈c,smL x): ∃b:Bool,zaG M s c=some ((b,()),()):=by
 have h: ∀k i:Nat,i+k=c.length->zcK M c s c c.length i=some (.inl (c,()))∨zcK M c s c c.length i=some (.inr ((false,()),())):=by
  intro k
  induction k with
  | zero=>
   intro i hi;obtain rfl:i=c.length:=by omega
   refine .inl (zeE _ _ _ _ _ ?_);simp only [zda]
   rw [qc (by simp)]
  | succ k ih=>
   intro i hi;have h1:i<c.length:=by omega
   obtain ⟨b,hb⟩:=zJ5 s hs c[i] (hc _ (qi h1))
   have hq:zda M c s c c.length i=if b=true then zcK M c s c c.length ((i+1:Nat):Int) else some (.inr ((false,()),())):=by
    simp only [zda];rw [qb (by simpa using h1),zd h1,zb (by omega)];simp only [qa,zg,za,hb];cases b<;>rfl
   cases b with
   | false=>exact .inr (zeE _ _ _ _ _ hq)
   | true=>
    rcases ih (i+1) (by omega) with h | h
    ·exact .inl (zeE _ _ _ _ _ (hq.trans h))
    ·exact .inr (zeE _ _ _ _ _ (hq.trans h))
 have h0:=h c.length 0 (by omega);rw [e0x] at h0;rcases h0 with h0 | h0
 ·refine ⟨decide ((c.length:Int)<=8),zrg _ _ ?_⟩;simp only [zkJ,za,h0,qa,qd]
 ·refine ⟨false,zrg _ _ ?_⟩;simp only [zkJ,za,h0,qa,qF]
theorem zlx (s:TSign) (hs:s.1.length<=1048576) (a:List TLit) (ha:a.length<=1048576) (hx: ∀x∈a,smL x):zlt M s a=some ((gS s.1&&clOK s.1 a,()),()):=by
 apply zz4;simp only [zoX,za,zig s (by omega),qa]
 cases hg:gS s.1 with
 | false=>rfl
 | true=>rw [qb rfl,zeV s hg a ha hx];rfl
theorem zlD (s:TSign) (hs:s.1.length<=1048576) (a:List TLit) (ha:a.length<=1048576):zlj M s a=some ((gS s.1&&clOK s.1 a,()),()):=by
 apply zz7;simp only [zoU,za,zku s (by omega),qa]
 cases hg:gS s.1 with
 | false=>rfl
 | true=>rw [qb rfl,zqZ s hg a ha];rfl
theorem zGX (x y:TLit):sameT x y=sameT y x:=by
 rw [Bool.eq_iff_iff];simp only [sameT,wb,qq,qt];constructor
 ·rintro (⟨h1,h2⟩ | ⟨h1,h2⟩)
  ·exact .inl ⟨h1.symm,h2.symm⟩
  ·exact .inr ⟨h2.symm,h1.symm⟩
 ·rintro (⟨h1,h2⟩ | ⟨h1,h2⟩)
  ·exact .inl ⟨h1.symm,h2.symm⟩
  ·exact .inr ⟨h2.symm,h1.symm⟩
def opp (x y:TLit):Bool:= !(x.1==y.1)&&sameT x y
theorem zKD (x y:TLit) (hx:smL x):zjh M y x=some ((opp x y,()),()):=by
 apply zxD;simp only [zmf,zg,(zsT x y hx).1,qa,opp];cases (x.1==y.1)<;>rfl
section
variable (c : List TLit) (lc : c.length <= 1000) (hc : ∀ x ∈ c, smL x)
include lc hc
omit hc in
theorem zK9 (x:TLit) (hx:smL x): ∀k i:Nat,i+k=c.length-> ∃r,zF M c (x,()) c.length i=some r∧(match r with | .inl _=>(c.drop i).any (opp x)=false | .inr r=>0<=r.1.1∧(c.drop i).any (opp x)=true):=by
 intro k
 induction k with
 | zero=>
  intro i hi;obtain rfl:i=c.length:=by omega
  exact ⟨.inl (),zaX _ _ _ _ (by simp [zB]),by simp⟩
 | succ k ih=>
  intro i hi;have h1:i<c.length:=by omega
  obtain ⟨r,hr,hm⟩:=ih (i+1) (by omega);rw [qj h1,List.any_cons]
  cases hp:opp x c[i] with
  | true=>
   refine ⟨.inr (((i:Int),()),()),zaX _ _ _ _ ?_,Int.natCast_nonneg i,by rw [Bool.true_or]⟩;simp only [zB];rw [qb (by simpa using h1),zd h1]
   simp only [qa,zg,zKD x c[i] hx,hp,qf]
  | false=>
   refine ⟨r,zaX _ _ _ _ ?_,by rw [Bool.false_or];exact hm⟩;simp only [zB];rw [qb (by simpa using h1),zd h1,zb (by omega)];simp only [qa,zg,zKD x c[i] hx,hp,qg,qe];exact hr
omit hc in
theorem zK6 (x:TLit) (hx:smL x):zE M c (x,())=some ((c.any (opp x),()),()):=by
 obtain ⟨r,hr,hm⟩:=zK9 c lc x hx c.length 0 (by omega);rw [e0x] at hr;rw [qk] at hm;apply zgz;simp only [za1]
 cases r with
 | inl r=>
  rw [zcE c (x,()) (r:=((-1,()),())) (by simp only [zaq,hr,qa,qd])];simp only at hm
  simp [hm]
 | inr r=>
  rw [zcE c (x,()) (r:=r) (by simp only [zaq,hr,qa,qF])];simp only at hm;simp [hm]
def seI (c:List TLit) (x:TLit):Bool:=(x.1&&decide (x.2.1=x.2.2.1)) || c.any (opp x)
theorem zHt: ∀k i:Nat,i+k=c.length->zdx M c c c.length i=some (if (c.drop i).any (seI c)=true then .inr ((true,()),()) else .inl ()):=by
 intro k
 induction k with
 | zero=>
  intro i hi;obtain rfl:i=c.length:=by omega
  apply zpE;simp only [zhf];rw [qc (by simp),qG]
  rfl
 | succ k ih=>
  intro i hi;have h1:i<c.length:=by omega
  have hx:=hc _ (qi h1);have hE:=zna c[i].2.1 c[i].2.2.1 (by have:=hx.1;omega);have hA:=zK6 c lc c[i] hx
  have e:(c.drop i).any (seI c)=(((c[i].1&&decide (c[i].2.1=c[i].2.2.1)) || c.any (opp c[i])) || (c.drop (i+1)).any (seI c)):=by
   rw [qj h1,List.any_cons];rfl
  apply zpE;simp only [zhf];rw [qb (by simpa using h1),zd h1,zb (by omega),e];simp only [qa,zg,hE,hA,ih (i+1) (by omega)]
  cases c[i].1 with
  | false=>
   cases c.any (opp c[i]) with
   | true=>rfl
   | false=>rfl
  | true=>
   cases decide (c[i].2.1=c[i].2.2.1) with
   | true=>rfl
   | false=>
    cases c.any (opp c[i]) with
    | true=>rfl
    | false=>rfl
omit lc hc in
theorem zLV (x:TLit) (hx:smL x) (A:List TLit) (N i0:Int) (P:List TLit) (hP:P.length<=1000): ∀k j:Nat,j+k=P.length->zbS M c x A N i0 P P.length j=some (if (P.drop j).any (opp x)=true then .inr ((true,()),()) else .inl (c,A,N,i0,())):=by
 intro k
 induction k with
 | zero=>
  intro j hj;obtain rfl:j=P.length:=by omega
  apply znv;simp only [zfN];rw [qc (by simp),qG]
  rfl
 | succ k ih=>
  intro j hj;have h1:j<P.length:=by omega
  apply znv;simp only [zfN];rw [qb (by simpa using h1),zd h1,zb (by omega),qj h1,List.any_cons];simp only [qa,zg,(zsT x P[j] hx).2,ih (j+1) (by omega),opp];by_cases hq:(x.1==P[j].1)=true
  ·simp only [hq,qm,qg,qe,Bool.false_and,Bool.false_or]
  ·rw [Bool.not_eq_true] at hq;simp only [hq,qO,qf,Bool.true_and];by_cases hr:sameT x P[j]=true
   ·simp only [hr,qf,Bool.true_or]
   ·rw [Bool.not_eq_true] at hr;simp only [hr,qg,qe,Bool.false_or]
def seS (c:List TLit):Nat->List TLit->Bool
 | _,[]=>false
 | i,x::r=>((x.1&&decide (x.2.1=x.2.2.1)) || (c.take i).any (opp x)) || seS c (i+1) r
theorem zIa: ∀k i:Nat,i+k=c.length->zds M c c c.length i=some (if seS c i (c.drop i)=true then .inr ((true,()),()) else .inl ()):=by
 intro k
 induction k with
 | zero=>
  intro i hi;obtain rfl:i=c.length:=by omega
  apply zpv;simp only [zhk];rw [qc (by simp),qG]
  rfl
 | succ k ih=>
  intro i hi;have h1:i<c.length:=by omega
  have hx:=hc _ (qi h1);have hS:=zlU c[i].2.1 c[i].2.2.1 (by have:=hx.1;omega);have g0:0<=(0:Int)∧(0:Int)<=(i:Int)∧(i:Int)<=(c.length:Int):=by omega
  have cut:(c.take (Int.toNat (i:Int))).drop (Int.toNat (0:Int))=c.take i:=by rw [qo];rfl
  have hIn:=zLV c c[i] hx c c.length i (c.take i) (by simp;omega) (c.take i).length 0 (by omega);rw [e0x,qk] at hIn
  have e:seS c i (c.drop i)=(((c[i].1&&decide (c[i].2.1=c[i].2.2.1)) || (c.take i).any (opp c[i])) || seS c (i+1) (c.drop (i+1))):=by
   rw [qj h1];rfl
  apply zpv;simp only [zhk];rw [qb (by simpa using h1),zd h1,e];simp only [qa,zg,hS]
  cases hb:c[i].1 with
  | false=>
   simp only [qg,qe,Bool.false_and,Bool.false_or];rw [qb g0,cut,hIn]
   cases (c.take i).any (opp c[i]) with
   | true=>rfl
   | false=>
    simp only [qg,qe,qa,qd];rw [zb (by omega),ih (i+1) (by omega)]
    rfl
  | true=>
   cases decide (c[i].2.1=c[i].2.2.1) with
   | true=>rfl
   | false=>
    simp only [qg,qe,qf,Bool.and_false,Bool.false_or];rw [qb g0,cut,hIn]
    cases (c.take i).any (opp c[i]) with
    | true=>rfl
    | false=>
     simp only [qg,qe,qa,qd];rw [zb (by omega),ih (i+1) (by omega)];rfl
omit lc hc in
theorem zLu:c.any (seI c)=true↔TautP c:=by
 simp only [List.any_eq_true,seI,wb,qq,qt,opp,Bool.not_eq_true',beq_eq_false_iff_ne,ne_eq,TautP];constructor
 ·rintro ⟨x,hx,h | ⟨y,hy,h⟩⟩
  ·exact .inl ⟨x,hx,h⟩
  ·exact .inr ⟨x,hx,y,hy,h⟩
 ·rintro (⟨x,hx,h⟩ | ⟨x,hx,y,hy,h⟩)
  ·exact ⟨x,hx,.inl h⟩
  ·exact ⟨x,hx,.inr ⟨y,hy,h⟩⟩
omit lc hc in
theorem zLs: ∀(k i:Nat),i+k=c.length->(seS c i (c.drop i)=true↔ ∃j,∃h:j<c.length,i<=j∧((c[j].1=true∧c[j].2.1=c[j].2.2.1)∨ ∃m,∃h':m<j,opp c[j] (c[m]'(by omega))=true)):=by
 intro k
 induction k with
 | zero=>
  intro i hi;obtain rfl:i=c.length:=by omega
  rw [qG];constructor
  ·intro h;cases h
  ·rintro ⟨j,h,hj,_⟩;omega
 | succ k ih=>
  intro i hi;have h1:i<c.length:=by omega
  have e:seS c i (c.drop i)=(((c[i].1&&decide (c[i].2.1=c[i].2.2.1)) || (c.take i).any (opp c[i])) || seS c (i+1) (c.drop (i+1))):=by
   rw [qj h1];rfl
  rw [e];simp only [wb,qq,qt];rw [ih (i+1) (by omega)];constructor
  ·rintro ((h | h) | ⟨j,h,hj,q⟩)
   ·exact ⟨i,h1,ql _,.inl h⟩
   ·obtain ⟨y,hy,ho⟩:=List.any_eq_true.1 h;obtain ⟨m,hm,rfl⟩:=qH.1 hy;have hm':m<i:=by simp at hm;omega
    refine ⟨i,h1,ql _,.inr ⟨m,hm',?_⟩⟩;rw [List.getElem_take] at ho;exact ho
   ·exact ⟨j,h,by omega,q⟩
  ·rintro ⟨j,h,hj,q⟩
   by_cases hji:j=i
   ·subst hji;rcases q with q | ⟨m,hm,ho⟩
    ·exact .inl (.inl q)
    ·refine .inl (.inr (List.any_eq_true.2 ⟨_,qH.2 ⟨m,by simp;omega,rfl⟩,?_⟩));rw [List.getElem_take];exact ho
   ·exact .inr ⟨j,h,by omega,q⟩
omit lc hc in
theorem zKi (x y:TLit):opp x y=opp y x:=by
 unfold opp;rw [zGX x y];congr 1;cases x.1<;>cases y.1<;>rfl
omit lc hc in
theorem zIO:seS c 0 c=true↔TautP c:=by
 have h:=zLs c c.length 0 (by omega);rw [qk] at h;rw [h];constructor
 ·rintro ⟨j,hj,_,q | ⟨m,hm,ho⟩⟩
  ·exact .inl ⟨c[j],qi hj,q⟩
  ·simp only [opp,qq,Bool.not_eq_true',beq_eq_false_iff_ne,ne_eq] at ho;exact .inr ⟨c[j],qi hj,_,qi _,ho⟩
 ·rintro (⟨x,hx,q⟩ | ⟨x,hx,y,hy,e1,e2⟩)
  ·obtain ⟨j,hj,rfl⟩:=qH.1 hx;exact ⟨j,hj,Nat.zero_le _,.inl q⟩
  ·obtain ⟨j,hj,rfl⟩:=qH.1 hx;obtain ⟨m,hm,rfl⟩:=qH.1 hy
   have ho:opp c[j] c[m]=true:=by
    simp only [opp,qq,Bool.not_eq_true',beq_eq_false_iff_ne,ne_eq];exact ⟨e1,e2⟩
   rcases Nat.lt_trichotomy j m with q | q | q
   ·exact ⟨m,hm,Nat.zero_le _,.inr ⟨j,q,by rw [zKi];exact ho⟩⟩
   ·subst q;exact absurd rfl e1
   ·exact ⟨j,hj,Nat.zero_le _,.inr ⟨m,q,ho⟩⟩
open Classical in
noncomputable def tautB (c:List TLit):Bool:=decide (TautP c)
omit lc hc in
theorem zzu:tautB c=true↔TautP c:=by simp [tautB]
theorem zIZ:zk3 M c=some ((tautB c,()),())∧zfs M c=some ((tautB c,()),()):=by
 have h1:=zHt c lc hc c.length 0 (by omega);have h2:=zIa c lc hc c.length 0 (by omega);rw [e0x,qk] at h1 h2;have e1:c.any (seI c)=tautB c:=by rw [Bool.eq_iff_iff,zLu,zzu]
 have e2:seS c 0 c=tautB c:=by rw [Bool.eq_iff_iff,zIO,zzu]
 rw [e1] at h1;rw [e2] at h2;refine ⟨zyK _ ?_,zyX _ ?_⟩
 ·simp only [zob,h1,qa];cases tautB c<;>rfl
 ·simp only [zoi,h2,qa];cases tautB c<;>rfl
end
theorem zLl {a:List Int} {c:List TLit} (h:clOK a c=true):smC c:=by
 obtain ⟨q1,q2⟩:=zm.1 h;exact ⟨by omega,fun x hx=>by have:=zbt (q2 x hx);exact ⟨by omega,by omega⟩⟩
section
variable (s : TSign) (hg : gS s.1 = true)
include hg
noncomputable def sbs (c d:List TLit):Bool:=match zd5 M s c d with
 | some r=>r.1.2.1
 | none=>false
theorem zG1 (c d:List TLit) (hc:clOK s.1 c=true) (hd:clOK s.1 d=true): ∃o1 o2:List (List Int),zd5 M s c d=some ((o1,sbs s c d,()),())∧zn7 M s c d=some ((o2,sbs s c d,()),())∧(sbs s c d=true-> ∃τ,okB s.1 τ∧SubB τ c d):=by
 obtain ⟨b,o1,o2,h1,h2,h3⟩:=zHg s hg c d hc hd;have e:sbs s c d=b:=by unfold sbs;rw [h1]
 rw [e];exact ⟨o1,o2,h1,h2,h3⟩
theorem zL3 (c d:List TLit) (hc:clOK s.1 c=true) (hd:clOK s.1 d=true):zfO M d s c=some ((sbs s d c,()),()):=by
 obtain ⟨o1,o2,h1,h2,_⟩:=zG1 s hg d c hd hc;apply zuN;simp only [zjb,zC,h1,qa]
theorem zLy (c:List TLit) (hc:clOK s.1 c=true) (l:List (List TLit)) (hl:l.length<=1048576) (hx: ∀d∈l,clOK s.1 d=true): ∀k i:Nat,i+k=l.length-> ∃r,zk M l (s,c,()) l.length i=some r∧(match r with | .inl _=>(l.drop i).any (fun d=>sbs s d c)=false | .inr r=>0<=r.1.1∧(l.drop i).any (fun d=>sbs s d c)=true):=by
 intro k
 induction k with
 | zero=>
  intro i hi;obtain rfl:i=l.length:=by omega
  exact ⟨.inl (),zat _ _ _ _ (by simp [zj]),by simp⟩
 | succ k ih=>
  intro i hi;have h1:i<l.length:=by omega
  obtain ⟨r,hr,hm⟩:=ih (i+1) (by omega);have h2:=zL3 s hg c l[i] hc (hx _ (qi h1));rw [qj h1,List.any_cons];by_cases hp:sbs s l[i] c=true
  ·refine ⟨.inr (((i:Int),()),()),zat _ _ _ _ ?_,Int.natCast_nonneg i,by rw [hp,Bool.true_or]⟩;simp only [zj];rw [qb (by simpa using h1),zd h1];simp only [qa,h2,hp,qf]
  ·rw [Bool.not_eq_true] at hp;refine ⟨r,zat _ _ _ _ ?_,by rw [hp,Bool.false_or];exact hm⟩;simp only [zj];rw [qb (by simpa using h1),zd h1,zb (by omega)];simp only [qa,h2,hp,qg,qe];exact hr
theorem zLe (c:List TLit) (hc:clOK s.1 c=true) (l:List (List TLit)) (hl:l.length<=1048576) (hx: ∀d∈l,clOK s.1 d=true):zK M l (s,c,())=some ((l.any (fun d=>sbs s d c),()),()):=by
 obtain ⟨r,hr,hm⟩:=zLy s hg c hc l hl hx l.length 0 (by omega);rw [e0x] at hr;rw [qk] at hm;apply zet;simp only [zav]
 cases r with
 | inl r=>
  rw [zbR l (s,c,()) (r:=((-1,()),())) (by simp only [zT,hr,qa,qd])];simp only at hm
  simp [hm]
 | inr r=>
  rw [zbR l (s,c,()) (r:=r) (by simp only [zT,hr,qa,qF])];simp only at hm;simp [hm]
theorem zFt (c:List TLit) (hc:clOK s.1 c=true) (l:List (List TLit)) (hl:l.length<=1048576) (hx: ∀d∈l,clOK s.1 d=true): ∀k i:Nat,i+k=l.length->zfr M c s l l.length i=some (if (l.drop i).any (fun d=>sbs s d c)=true then .inr ((true,()),()) else .inl ()):=by
 intro k
 induction k with
 | zero=>
  intro i hi;obtain rfl:i=l.length:=by omega
  apply zph;simp only [zho];rw [qc (by simp),qG]
  rfl
 | succ k ih=>
  intro i hi;have h1:i<l.length:=by omega
  obtain ⟨o1,o2,_,h2,_⟩:=zG1 s hg l[i] c (hx _ (qi h1)) hc;apply zph;simp only [zho,za];rw [qb (by simpa using h1),zd h1,zb (by omega),qj h1,List.any_cons];simp only [qa,h2]
  cases sbs s l[i] c with
  | true=>rfl
  | false=>exact ih (i+1) (by omega)
noncomputable def redB (c:List TLit) (l:List (List TLit)):Bool:=tautB c || l.any (fun d=>sbs s d c)
theorem zKG (c:List TLit) (hc:clOK s.1 c=true) (l:List (List TLit)) (hl:l.length<=1048576) (hx: ∀d∈l,clOK s.1 d=true):zgG M s c l=some ((redB s c l,()),())∧zdK M s c l=some ((redB s c l,()),()):=by
 have sm:=zLl hc;have c8:=(zm.1 hc).1;obtain ⟨t1,t2⟩:=zIZ c (by omega) sm.2;have a1:=zLe s hg c hc l hl hx;have a2:=zFt s hg c hc l hl hx l.length 0 (by omega);rw [e0x,qk] at a2;refine ⟨zv0 _ _ _ ?_,zys _ _ _ ?_⟩
 ·simp only [zke,t1,za,a1,qa,redB];cases tautB c<;>rfl
 ·simp only [zof,t2,za,a2,qa,redB]
  cases tautB c with
  | true=>rfl
  | false=>
   cases l.any (fun d=>sbs s d c)<;>rfl
theorem zIr {w:TWorld} (hw:wOK s.1 w=true) {c:List TLit} (hc:clOK s.1 c=true) {l:List (List TLit)} (hx: ∀d∈l,clOK s.1 d=true) (h:redB s c l=true) (hl: ∀d∈l,HOL s.1 w d):HOL s.1 w c:=by
 simp only [redB,wb] at h;rcases h with h | h
 ·exact zHb ((zzu c).1 h)
 ·obtain ⟨d,hd,hs⟩:=List.any_eq_true.1 h;obtain ⟨_,_,_,_,h3⟩:=zG1 s hg d c (hx d hd) hc;obtain ⟨τ,h4,h5⟩:=h3 hs;exact zHP s hg hw (zm.1 (hx d hd)).2 h4 h5 (hl d hd)
end
def inOK (a:List Int) (l:List (List TLit)):Bool:=decide (l.length<=12)&&l.all (clOK a)
theorem zKA (s:TSign) (hg:gS s.1=true) (c:List TLit) (hc:c.length<=1048576):zgB M c s=some ((!clOK s.1 c,()),()):=by
 apply zvY;simp only [zkh,zC,zqZ s hg c hc,qa]
theorem zJy (s:TSign) (hg:gS s.1=true) (a:List (List TLit)) (ha:a.length<=1048576) (hx: ∀c∈a,smC c): ∀k i:Nat,i+k=a.length-> ∃r,zn M a (s,()) a.length i=some r∧(match r with | .inl _=>(a.drop i).all (clOK s.1)=true | .inr r=>0<=r.1.1∧(a.drop i).all (clOK s.1)=false):=by
 intro k
 induction k with
 | zero=>
  intro i hi;obtain rfl:i=a.length:=by omega
  refine ⟨.inl (),zay _ _ _ _ (by simp [zl]),by simp⟩
 | succ k ih=>
  intro i hi;have h1:i<a.length:=by omega
  obtain ⟨r,hr,hm⟩:=ih (i+1) (by omega);have hc:=(hx _ (qi h1)).1;rw [qj h1,qR];by_cases hp:clOK s.1 a[i]=true
  ·refine ⟨r,zay _ _ _ _ ?_,by rw [hp,Bool.true_and];exact hm⟩;simp only [zl];rw [qb (by simpa using h1),zd h1,zb (by omega)];simp only [qa,zKA s hg _ hc,hp,qm,qg,qe];exact hr
  ·rw [Bool.not_eq_true] at hp;refine ⟨.inr (((i:Int),()),()),zay _ _ _ _ ?_,Int.natCast_nonneg i,by rw [hp,Bool.false_and]⟩;simp only [zl];rw [qb (by simpa using h1),zd h1];simp only [qa,zKA s hg _ hc,hp,qO,qf]
theorem zFz (s:TSign) (hg:gS s.1=true) (a:List (List TLit)) (ha:a.length<=1048576) (hx: ∀c∈a,smC c):zh3 M s a=some ((inOK s.1 a,()),()):=by
 obtain ⟨r,hr,hm⟩:=zJy s hg a ha hx a.length 0 (by omega);rw [e0x] at hr;rw [qk] at hm
 have key:zN M a (s,())=some ((!(a.all (clOK s.1)),()),()):=by
  apply zeY;simp only [zaA]
  cases r with
  | inl r=>
   rw [zb5 a (s,()) (r:=((-1,()),())) (by simp only [z5,hr,qa,qd])];simp only at hm
   simp [hm]
  | inr r=>
   rw [zb5 a (s,()) (r:=r) (by simp only [z5,hr,qa,qF])];simp only at hm;simp [hm]
 apply zxa;simp only [zl0,zC,key,qa,Bool.not_not,inOK];by_cases h:a.length<=12
 ·rw [qb (by simp;omega),qp h,Bool.true_and]
 ·rw [qc (by simp;omega),qA h,Bool.false_and]
theorem zBB (s:TSign) (hs:s.1.length<=1048576) (a:List (List TLit)) (ha:a.length<=1048576) (hx: ∀c∈a,smC c):zhR M s a=some ((gS s.1&&inOK s.1 a,()),()):=by
 cases hg:gS s.1 with
 | false=>
  have h: ∀k i:Nat,i+k=a.length->zcM M a s a a.length i=some (.inl (a,s,()))∨zcM M a s a a.length i=some (.inr ((false,()),())):=by
   intro k
   induction k with
   | zero=>
    intro i hi;obtain rfl:i=a.length:=by omega
    refine .inl (zeu _ _ _ _ _ ?_);simp only [zdf,za]
    rw [qc (by simp)]
   | succ k ih=>
    intro i hi;have h1:i<a.length:=by omega
    obtain ⟨c1,c2⟩:=hx _ (qi h1);obtain ⟨b,hb⟩:=zAi s hs a[i] c1 c2
    have hq:zdf M a s a a.length i=if b=true then zcM M a s a a.length ((i+1:Nat):Int) else some (.inr ((false,()),())):=by
     simp only [zdf,za];rw [qb (by simpa using h1),zd h1,zb (by omega)];simp only [qa,hb];cases b<;>rfl
    cases b with
    | false=>exact .inr (zeu _ _ _ _ _ hq)
    | true=>
     rcases ih (i+1) (by omega) with h | h
     ·exact .inl (zeu _ _ _ _ _ (hq.trans h))
     ·exact .inr (zeu _ _ _ _ _ (hq.trans h))
  have h0:=h a.length 0 (by omega);rw [e0x] at h0;apply zv3;rcases h0 with h0 | h0
  ·simp only [zkN,za,h0,qa,qd,zig s (by omega),hg];rfl
  ·simp only [zkN,za,h0,qa,qF];rfl
 | true=>
  have h: ∀k i:Nat,i+k=a.length->zcM M a s a a.length i=some (if (a.drop i).all (clOK s.1)=true then .inl (a,s,()) else .inr ((false,()),())):=by
   intro k
   induction k with
   | zero=>
    intro i hi;obtain rfl:i=a.length:=by omega
    apply zeu;simp only [zdf,za];rw [qc (by simp),qG]
    rfl
   | succ k ih=>
    intro i hi;have h1:i<a.length:=by omega
    obtain ⟨c1,c2⟩:=hx _ (qi h1);apply zeu;simp only [zdf,za];rw [qb (by simpa using h1),zd h1,zb (by omega),qj h1,qR];simp only [qa,zeV s hg a[i] c1 c2]
    cases clOK s.1 a[i] with
    | false=>rfl
    | true=>exact ih (i+1) (by omega)
  have h0:=h a.length 0 (by omega);rw [e0x,qk] at h0;apply zv3;simp only [zkN,za,h0,qa,inOK,Bool.true_and]
  cases a.all (clOK s.1) with
  | false=>simp
  | true=>
   simp only [qf,qd,zig s (show s.1.length<=17592186044416 by omega),hg,qa,Bool.and_true];congr 3;rw [decide_eq_decide];omega
def ofN (n:Nat) (l:List Int):Bool:=l.all fun k=>decide (0<=k)&&decide (k<(n:Int))
theorem zKF (steps:List TStep) (k:Int):zoC M k steps=some ((!(decide (0<=k)&&decide (k<(steps.length:Int))),()),()):=by
 apply zB8;simp only [zsG];by_cases h0:0<=k
 ·rw [qc (by simp;omega),qp h0,Bool.true_and];congr 3;by_cases h1:k<(steps.length:Int)
  ·rw [qp h1,qA (by omega)];rfl
  ·rw [qA h1,qp (by omega)];rfl
 ·rw [qb (by simp;omega),qA h0];rfl
theorem zJu (steps:List TStep) (a:List Int) (ha:a.length<=1048576): ∀k i:Nat,i+k=a.length-> ∃r,zaB M a (steps,()) a.length i=some r∧(match r with | .inl _=>ofN steps.length (a.drop i)=true | .inr r=>0<=r.1.1∧ofN steps.length (a.drop i)=false):=by
 intro k
 induction k with
 | zero=>
  intro i hi;obtain rfl:i=a.length:=by omega
  refine ⟨.inl (),zcr _ _ _ _ (by simp [zaw]),by simp [ofN]⟩
 | succ k ih=>
  intro i hi;have h1:i<a.length:=by omega
  obtain ⟨r,hr,hm⟩:=ih (i+1) (by omega)
  have e:ofN steps.length (a.drop i)=((decide (0<=a[i])&&decide (a[i]<(steps.length:Int)))&&ofN steps.length (a.drop (i+1))):=by
   rw [qj h1];rfl
  rw [e]
  cases hp:(decide (0<=a[i])&&decide (a[i]<(steps.length:Int))) with
  | true=>
   refine ⟨r,zcr _ _ _ _ ?_,by rw [Bool.true_and];exact hm⟩;simp only [zaw];rw [qb (by simpa using h1),zd h1,zb (by omega)];simp only [qa,zKF,hp,qm,qg,qe]
   exact hr
  | false=>
   refine ⟨.inr (((i:Int),()),()),zcr _ _ _ _ ?_,Int.natCast_nonneg i,by rw [Bool.false_and]⟩;simp only [zaw];rw [qb (by simpa using h1),zd h1];simp only [qa,zKF,hp,qO,qf]
theorem zCf (steps:List TStep) (a:List Int) (ha:a.length<=1048576):zlQ M steps a=some ((ofN steps.length a,()),()):=by
 obtain ⟨r,hr,hm⟩:=zJu steps a ha a.length 0 (by omega);rw [e0x] at hr;rw [qk] at hm
 have key:zbq M a (steps,())=some ((!(ofN steps.length a),()),()):=by
  apply zli;simp only [zcu]
  cases r with
  | inl r=>
   rw [zgc a (steps,()) (r:=((-1,()),())) (by simp only [zbH,hr,qa,qd])];simp only at hm
   simp [hm]
  | inr r=>
   rw [zgc a (steps,()) (r:=r) (by simp only [zbH,hr,qa,qF])];simp only at hm;simp [hm]
 apply zEW;simp only [zvm,key,qa,Bool.not_not]
def clS (a:List Int) (l:List TStep):Bool:=l.all fun x=>clOK a x.2.2.2.1
theorem zKy (s:TSign) (hg:gS s.1=true) (x:TStep) (hx:smP x):zhl M x s=some ((!clOK s.1 x.2.2.2.1,()),()):=by
 apply zwl;simp only [zlc,zC,zqZ s hg x.2.2.2.1 hx.2.2.1,qa]
theorem zKm (s:TSign) (hg:gS s.1=true) (a:List TStep) (ha:a.length<=1048576) (hx: ∀x∈a,smP x): ∀k i:Nat,i+k=a.length-> ∃r,zq M a (s,()) a.length i=some r∧(match r with | .inl _=>clS s.1 (a.drop i)=true | .inr r=>0<=r.1.1∧clS s.1 (a.drop i)=false):=by
 intro k
 induction k with
 | zero=>
  intro i hi;obtain rfl:i=a.length:=by omega
  refine ⟨.inl (),zaD _ _ _ _ (by simp [zo]),by simp [clS]⟩
 | succ k ih=>
  intro i hi;have h1:i<a.length:=by omega
  obtain ⟨r,hr,hm⟩:=ih (i+1) (by omega);have hc:=hx _ (qi h1)
  have e:clS s.1 (a.drop i)=(clOK s.1 a[i].2.2.2.1&&clS s.1 (a.drop (i+1))):=by
   rw [qj h1];rfl
  rw [e];by_cases hp:clOK s.1 a[i].2.2.2.1=true
  ·refine ⟨r,zaD _ _ _ _ ?_,by rw [hp,Bool.true_and];exact hm⟩;simp only [zo];rw [qb (by simpa using h1),zd h1,zb (by omega)];simp only [qa,zef,zKy s hg _ hc,hp,qm,qg,qe];exact hr
  ·rw [Bool.not_eq_true] at hp;refine ⟨.inr (((i:Int),()),()),zaD _ _ _ _ ?_,Int.natCast_nonneg i,by rw [hp,Bool.false_and]⟩;simp only [zo];rw [qb (by simpa using h1),zd h1];simp only [qa,zef,zKy s hg _ hc,hp,qO,qf]
theorem zxG (s:TSign) (hg:gS s.1=true) (a:List TStep) (ha:a.length<=1048576) (hx: ∀x∈a,smP x):zd6 M s a=some ((decide (a.length<=200)&&clS s.1 a,()),()):=by
 obtain ⟨r,hr,hm⟩:=zKm s hg a ha hx a.length 0 (by omega);rw [e0x] at hr;rw [qk] at hm
 have key:zW M a (s,())=some ((!(clS s.1 a),()),()):=by
  apply zfq;simp only [zaK]
  cases r with
  | inl r=>
   rw [zce a (s,()) (r:=((-1,()),())) (by simp only [zab,hr,qa,qd])];simp only at hm
   simp [hm]
  | inr r=>
   rw [zce a (s,()) (r:=r) (by simp only [zab,hr,qa,qF])];simp only at hm;simp [hm]
 apply zxH;simp only [zmg,zC,key,qa,Bool.not_not];by_cases h:a.length<=200
 ·rw [qb (by simp;omega),qp h,Bool.true_and]
 ·rw [qc (by simp;omega),qA h,Bool.false_and]
theorem zDi (s:TSign) (hs:s.1.length<=1048576) (hg:gS s.1=true) (a:List TStep) (ha:a.length<=1048576) (hx: ∀x∈a,smP x):zg8 M s a=some ((decide (a.length<=200)&&clS s.1 a,()),()):=by
 have h: ∀k i:Nat,i+k=a.length->zc9 M a s a a.length i=some (if clS s.1 (a.drop i)=true then .inl (a,s,()) else .inr ((false,()),())):=by
  intro k
  induction k with
  | zero=>
   intro i hi;obtain rfl:i=a.length:=by omega
   apply zfD;simp only [zdD,za];rw [qc (by simp),qG]
   rfl
  | succ k ih=>
   intro i hi;have h1:i<a.length:=by omega
   obtain ⟨_,_,c1,c2⟩:=hx _ (qi h1)
   have e:clS s.1 (a.drop i)=(clOK s.1 a[i].2.2.2.1&&clS s.1 (a.drop (i+1))):=by
    rw [qj h1];rfl
   apply zfD;simp only [zdD,za];rw [qb (by simpa using h1),zd h1,zb (by omega),e];simp only [qa,zeV s hg a[i].2.2.2.1 c1 c2]
   cases clOK s.1 a[i].2.2.2.1 with
   | false=>rfl
   | true=>exact ih (i+1) (by omega)
 have h0:=h a.length 0 (by omega);rw [e0x,qk] at h0;apply zwH;simp only [zl3,za,h0,qa]
 cases clS s.1 a with
 | false=>simp
 | true=>
  simp only [qf,qd,zig s (show s.1.length<=17592186044416 by omega),hg,qa,Bool.and_true];congr 3;rw [decide_eq_decide];omega
section
variable (s : TSign) (hg : gS s.1 = true)
include hg
theorem zLQ (d:List TLit) (hd:d.length<=1048576):zi8 M d s=some ((!clOK s.1 d,()),()):=by
 apply zxK;simp only [zmj,zC,zqZ s hg d hd,qa]
theorem zJK (l:List (List TLit)) (hl:l.length<=1048576) (hx: ∀d∈l,smC d): ∀k i:Nat,i+k=l.length-> ∃r,zt M l (s,()) l.length i=some r∧(match r with | .inl _=>(l.drop i).all (clOK s.1)=true | .inr r=>0<=r.1.1∧(l.drop i).all (clOK s.1)=false):=by
 intro k
 induction k with
 | zero=>
  intro i hi;obtain rfl:i=l.length:=by omega
  exact ⟨.inl (),zaL _ _ _ _ (by simp [zp]),by simp⟩
 | succ k ih=>
  intro i hi;have h1:i<l.length:=by omega
  obtain ⟨r,hr,hm⟩:=ih (i+1) (by omega);have h2:=zLQ s hg l[i] (hx _ (qi h1)).1;rw [qj h1,qR];by_cases hp:clOK s.1 l[i]=true
  ·refine ⟨r,zaL _ _ _ _ ?_,by rw [hp,Bool.true_and];exact hm⟩;simp only [zp];rw [qb (by simpa using h1),zd h1,zb (by omega)];simp only [qa,h2,hp,qm,qg,qe];exact hr
  ·rw [Bool.not_eq_true] at hp;refine ⟨.inr (((i:Int),()),()),zaL _ _ _ _ ?_,Int.natCast_nonneg i,by rw [hp,Bool.false_and]⟩;simp only [zp];rw [qb (by simpa using h1),zd h1];simp only [qa,h2,hp,qO,qf]
theorem zI7 (l:List (List TLit)) (hl:l.length<=1048576) (hx: ∀d∈l,smC d):zZ M l (s,())=some ((!l.all (clOK s.1),()),()):=by
 obtain ⟨r,hr,hm⟩:=zJK s hg l hl hx l.length 0 (by omega);rw [e0x] at hr;rw [qk] at hm;apply zfR;simp only [zaQ]
 cases r with
 | inl r=>
  rw [zcm l (s,()) (r:=((-1,()),())) (by simp only [zag,hr,qa,qd])];simp only at hm
  simp [hm]
 | inr r=>
  rw [zcm l (s,()) (r:=r) (by simp only [zag,hr,qa,qF])];simp only at hm;simp [hm]
theorem zIC (c:List TLit) (l:List (List TLit)) (hl:l.length<=1048576) (hx: ∀d∈l,smC d): ∀k i:Nat,i+k=l.length->zfe M c l s l l.length i=some (if (l.drop i).all (clOK s.1)=true then .inl (c,l,s,()) else .inr ((false,false,()),())):=by
 intro k
 induction k with
 | zero=>
  intro i hi;obtain rfl:i=l.length:=by omega
  apply zpI;simp only [zhd,za];rw [qc (by simp),qG]
  rfl
 | succ k ih=>
  intro i hi;have h1:i<l.length:=by omega
  have h2:=hx _ (qi h1);apply zpI;simp only [zhd,za];rw [qb (by simpa using h1),zd h1,zb (by omega),qj h1,qR];simp only [qa,zeV s hg l[i] h2.1 h2.2]
  cases clOK s.1 l[i] with
  | false=>rfl
  | true=>exact ih (i+1) (by omega)
end
theorem zBW (s:TSign) (hs:s.1.length<=1048576) (c:List TLit) (hc:smC c) (l:List (List TLit)) (hl:l.length<=1048576) (hx: ∀d∈l,smC d): ∃b ok:Bool,zhB M s c l=some ((b,ok,()),())∧zhN M s c l=some ((b,ok,()),())∧(ok=true->gS s.1=true∧clOK s.1 c=true∧(∀d∈l,clOK s.1 d=true)∧b=redB s c l):=by
 cases h1:(gS s.1&&clOK s.1 c) with
 | false=>
  refine ⟨false,false,zkv _ _ _ ?_,zkL _ _ _ ?_,fun h=>by cases h⟩
  ·simp only [zfi,zC,zlD s hs c hc.1,h1,qa];rfl
  ·simp only [zff,zC,zlx s hs c hc.1 hc.2,h1,qa];rfl
 | true=>
  have h1':=h1;simp only [qq] at h1';obtain ⟨hg,h2⟩:=h1';by_cases h3:l.length<=200
  ·have g3:decide ((l.length:Int)>200)=false:=by simp;omega
   have a1:=zI7 s hg l hl hx;have a2:=zIC s hg c l hl hx l.length 0 (by omega);rw [e0x,qk] at a2
   cases h4:l.all (clOK s.1) with
   | false=>
    rw [h4] at a1 a2;refine ⟨false,false,zkv _ _ _ ?_,zkL _ _ _ ?_,fun h=>by cases h⟩
    ·simp only [zfi,zC,zlD s hs c hc.1,h1,g3,a1,qa];rfl
    ·simp only [zff,zC,zlx s hs c hc.1 hc.2,h1,g3,a2,qa];rfl
   | true=>
    have hall:=List.all_eq_true.1 h4;obtain ⟨r1,r2⟩:=zKG s hg c h2 l hl hall;rw [h4] at a1 a2;refine ⟨redB s c l,true,zkv _ _ _ ?_,zkL _ _ _ ?_,fun _=>⟨hg,h2,hall,rfl⟩⟩
    ·simp only [zfi,zC,zlD s hs c hc.1,h1,g3,a1,r1,qa];rfl
    ·simp only [zff,zC,zlx s hs c hc.1 hc.2,h1,g3,a2,qa,qf,qd,r2];rfl
  ·have g3:decide ((l.length:Int)>200)=true:=by simp;omega
   refine ⟨false,false,zkv _ _ _ ?_,zkL _ _ _ ?_,fun h=>by cases h⟩
   ·simp only [zfi,zC,zlD s hs c hc.1,h1,g3,qa];rfl
   ·simp only [zff,zC,zlx s hs c hc.1 hc.2,h1,g3,qa];rfl
def wgC:List TLit->Nat
 | []=>0
 | x::r=>x.2.1.length+x.2.2.1.length+wgC r
def sumL:List (List Int)->Nat
 | []=>0
 | t::r=>t.length+sumL r
theorem zEc: ∀c:List TLit,sumL (tms c)=wgC c
 | []=>rfl
 | x::c=>by
  have:=zEc c;simp only [tms,List.flatMap_cons,qZ,qC,sumL,wgC] at this ⊢;omega
theorem zIw (ts:List (List Int)) (hl:ts.length<=1000) (hx: ∀t∈ts,t.length<=1000): ∀(k i:Nat) (n:Nat),i+k=ts.length->n<=1000*i->zjo M n ts ts.length i=some (.inl (((n+sumL (ts.drop i):Nat):Int),())):=by
 intro k
 induction k with
 | zero=>
  intro i n hi hn;obtain rfl:i=ts.length:=by omega
  apply zum;simp only [zlA];rw [qc (by simp),qG]
  rfl
 | succ k ih=>
  intro i n hi hn;have h1:i<ts.length:=by omega
  have h2:=hx _ (qi h1);apply zum;simp only [zlA];rw [qb (by simpa using h1),qb (by omega),qo,qu h1,zb (by omega)];simp only [qa];rw [w64 (by omega) (by omega),<-Int.natCast_add,ih (i+1) (n+ts[i].length) (by omega) (by omega),qj h1,sumL,Nat.add_assoc]
theorem zIP (c:List TLit) (hl:c.length<=1000) (hx: ∀x∈c,x.2.1.length<=1000∧x.2.2.1.length<=1000): ∀(k i:Nat) (n:Nat),i+k=c.length->n<=2000*i->zhy M n c c.length i=some (.inl (((n+wgC (c.drop i):Nat):Int),())):=by
 intro k
 induction k with
 | zero=>
  intro i n hi hn;obtain rfl:i=c.length:=by omega
  apply zr2;simp only [zjV];rw [qc (by simp),qG]
  rfl
 | succ k ih=>
  intro i n hi hn;have h1:i<c.length:=by omega
  obtain ⟨h2,h3⟩:=hx _ (qi h1);apply zr2;simp only [zjV];rw [qb (by simpa using h1),zd h1,zb (by omega)];simp only [qa];rw [w64 (x:=(c[i].2.1.length:Int)+(c[i].2.2.1.length:Int)) (by omega) (by omega),w64 (by omega) (by omega),show (n:Int)+((c[i].2.1.length:Int)+(c[i].2.2.1.length:Int))=((n+(c[i].2.1.length+c[i].2.2.1.length):Nat):Int) by omega,ih (i+1) _ (by omega) (by omega),qj h1,wgC,Nat.add_assoc]
theorem zDk {a:List Int} {c:List TLit} (hc:clOK a c=true):zm0 M c=some ((((wgC c:Nat):Int),()),())∧zkx M c=some ((((wgC c:Nat):Int),()),()):=by
 obtain ⟨c1,c2⟩:=zm.1 hc
 have hT: ∀t∈tms c,t.length<=1000:=by
  intro t ht;obtain ⟨x,hx,h⟩:=zc3.1 ht;have:=zbt (c2 x hx);rcases h with rfl | rfl<;>omega
 have h1:=zIw (tms c) (by rw [zkj];omega) hT (tms c).length 0 0 (by omega) (by omega);have h2:=zIP c (by omega) (fun x hx=>by have:=zbt (c2 x hx);omega) c.length 0 0 (by omega) (by omega);rw [e0x,qk,qJ] at h1 h2;rw [zEc] at h1;refine ⟨zDH _ ?_,zBo _ ?_⟩
 ·simp only [ztI,zoh c (by omega),h1,qa,qd]
 ·simp only [zrS,h2,qa,qd]
section
variable (s : TSign) (steps : List TStep) (hsc : ∀ x ∈ steps, clOK s.1 x.2.2.2.1 = true) (ps : List Int) (hp : ps.length <= 1048576) (hps : ∀ k ∈ ps, 0 <= k ∧ k < (steps.length : Int))
include hsc hps
theorem zCR (i:Nat) (h:i<ps.length): ∃x:TStep,idx steps ps[i]=some x∧clOK s.1 x.2.2.2.1=true:=by
 obtain ⟨h0,h1⟩:=hps _ (qi h);obtain ⟨n,e,hn⟩:=zmO h0 h1;exact ⟨steps[n],by rw [e,zd hn],hsc _ (qi hn)⟩
include hp
theorem zJR (round:Int) (hr:(Int.tmod round 4 !=0)=true): ∀(k i b:Nat),i+k=ps.length->(hb:b<ps.length)-> ∃j:Nat,∃h:j<ps.length,zgZ M steps ps round b ps ps.length i=some (.inl ((j:Int),()))∧zgQ M steps ps[b] ps ps.length i=some (.inl (ps[j],())):=by
 intro k
 induction k with
 | zero=>
  intro i b hi hb;obtain rfl:i=ps.length:=by omega
  refine ⟨b,hb,ziH _ _ _ _ _ _ _ ?_,zmx _ _ _ _ _ ?_⟩
  ·simp only [zeh];rw [qc (by simp)]
  ·simp only [zf6]
   rw [qc (by simp)]
 | succ k ih=>
  intro i b hi hb;have h1:i<ps.length:=by omega
  have hlt:decide ((i:Int)<(ps.length:Int))=true:=by simp;omega
  obtain ⟨x,x1,x2⟩:=zCR s steps hsc ps hps i h1;obtain ⟨y,y1,y2⟩:=zCR s steps hsc ps hps b hb;obtain ⟨w1,w2⟩:=zDk x2;obtain ⟨w3,w4⟩:=zDk y2;have n4: ¬(4:Int)=0:=by decide
  by_cases hw:((wgC x.2.2.2.1:Nat):Int)<((wgC y.2.2.2.1:Nat):Int)
  ·obtain ⟨j,hj,a1,a2⟩:=ih (i+1) i (by omega) h1;refine ⟨j,hj,ziH _ _ _ _ _ _ _ ?_,zmx _ _ _ _ _ ?_⟩
   ·simp only [zeh,hlt,zd h1,zd hb,x1,y1,hr,w1,w3,qp hw,n4,qa,qf,qe,qd];rw [zb (by omega)];exact a1
   ·simp only [zf6,hlt,zd h1,x1,y1,w2,w4,qp hw,qa,qf,qd];rw [zb (by omega)];exact a2
  ·obtain ⟨j,hj,a1,a2⟩:=ih (i+1) b (by omega) hb;refine ⟨j,hj,ziH _ _ _ _ _ _ _ ?_,zmx _ _ _ _ _ ?_⟩
   ·simp only [zeh,hlt,zd h1,zd hb,x1,y1,hr,w1,w3,qA hw,n4,qa,qf,qe,qg,qd];rw [zb (by omega)];exact a1
   ·simp only [zf6,hlt,zd h1,x1,y1,w2,w4,qA hw,qa,qf,qe,qg,qd];rw [zb (by omega)];exact a2
omit hsc hps in
theorem zH4 (round:Int) (hr:(Int.tmod round 4 !=0)=false) (b:Int): ∀(k i:Nat),i+k=ps.length->zgZ M steps ps round b ps ps.length i=some (.inl (b,())):=by
 intro k
 induction k with
 | zero=>
  intro i hi;obtain rfl:i=ps.length:=by omega
  apply ziH;simp only [zeh]
  rw [qc (by simp)]
 | succ k ih=>
  intro i hi;have h1:i<ps.length:=by omega
  have hlt:decide ((i:Int)<(ps.length:Int))=true:=by simp;omega
  have n4: ¬(4:Int)=0:=by decide
  apply ziH;simp only [zeh,hlt,zd h1,hr,n4,qa,qf,qe,qg,qd];rw [zb (by omega)];exact ih (i+1) (by omega)
theorem zDj (round:Int) (h0:0<ps.length): ∃j:Nat,∃h:j<ps.length,zpQ M steps ps round=some (((j:Int),()),())∧zgi M steps ps round=some ((ps[j],()),()):=by
 have i0:idx ps 0=some ps[0]:=zd (i:=0) h0;have n4: ¬(4:Int)=0:=by decide
 cases hr:(Int.tmod round 4 !=0) with
 | true=>
  have hr':(Int.tmod round 4==0)=false:=by simpa using hr
  obtain ⟨j,hj,a1,a2⟩:=zJR s steps hsc ps hp hps round hr ps.length 0 0 (by omega) h0;rw [e0x] at a1 a2;refine ⟨j,hj,zxV _ _ _ ?_,zv6 _ _ _ ?_⟩
  ·simp only [zp3,a1,qa,qd]
  ·simp only [znI,i0,hr',a2,n4,qa,qd,qe,qg]
 | false=>
  have hr':(Int.tmod round 4==0)=true:=by simpa using hr
  have a1:=zH4 steps ps hp round hr 0 ps.length 0 (by omega);rw [e0x] at a1;refine ⟨0,h0,zxV _ _ _ ?_,zv6 _ _ _ ?_⟩
  ·simp only [zp3,a1,qa,qd];rfl
  ·simp only [znI,i0,hr',n4,qa,qf,qe]
def unF (steps:List TStep):List Int->List Int->List Int
 | o,[]=>o
 | o,k::r=>unF steps (if (isU (gtC steps k)&&decide (o.length<10))=true then o++ [k] else o) r
omit hsc hps hp in
theorem zB6: ∀(l o:List Int),o.length<=10->(unF steps o l).length<=10
 | [],o,h=>h
 | k::r,o,h=>by
  simp only [unF];refine zB6 r _ ?_;split
  ·rename_i q;simp only [qq,qt] at q;simp;omega
  ·exact h
omit hsc hps hp in
theorem zGk: ∀(l o:List Int),∀k∈unF steps o l,k∈o∨(k∈l∧isU (gtC steps k)=true)
 | [],o,k,h=> .inl h
 | n::r,o,k,h=>by
  simp only [unF] at h;rcases zGk r _ k h with h | ⟨h1,h2⟩
  ·split at h
   ·rename_i q;simp only [qq,qt] at q;rcases qr.1 h with h | h
    ·exact .inl h
    ·rw [qM.1 h];exact .inr ⟨by simp,q.1⟩
   ·exact .inl h
  ·exact .inr ⟨by simp [h1],h2⟩
theorem zJD: ∀(k i:Nat) (o:List Int),i+k=ps.length->o.length<=10->ziK M steps o ps ps.length i=some (.inl (unF steps o (ps.drop i),()))∧ziz M steps o ps ps.length i=some (.inl (unF steps o (ps.drop i),())):=by
 intro k
 induction k with
 | zero=>
  intro i o hi ho;obtain rfl:i=ps.length:=by omega
  refine ⟨zk6 _ _ _ _ _ ?_,zkI _ _ _ _ _ ?_⟩
  ·simp only [zfc];rw [qc (by simp),qG];rfl
  ·simp only [zfA];rw [qc (by simp),qG]
   rfl
 | succ k ih=>
  intro i o hi ho;have h1:i<ps.length:=by omega
  have hlt:decide ((i:Int)<(ps.length:Int))=true:=by simp;omega
  obtain ⟨x,x1,x2⟩:=zCR s steps hsc ps hps i h1;have c8:=(zm.1 x2).1;obtain ⟨u1,u2⟩:=zxj x.2.2.2.1 (by omega);have hg:gtC steps ps[i]=x.2.2.2.1:=by unfold gtC;rw [x1]
  rw [qj h1];simp only [unF,hg];have hroom:(o.length+ [ps[i]].length)*8<=140737488355328:=by simp;omega
  by_cases hu:isU x.2.2.2.1=true
  ·by_cases hl:o.length<10
   ·have hl':decide ((o.length:Int)<10)=true:=by simp;omega
    obtain ⟨a1,a2⟩:=ih (i+1) (o++ [ps[i]]) (by omega) (by simp;omega);rw [qb (by simp [hu,hl])];refine ⟨zk6 _ _ _ _ _ ?_,zkI _ _ _ _ _ ?_⟩
    ·simp only [zfc,hlt,zd h1,hl',x1,u1,hu,hroom,qa,qf,qd];rw [zb (by omega)];exact a1
    ·simp only [zfA,hlt,zd h1,hl',x1,u2,hu,hroom,qa,qf,qd];rw [zb (by omega)];exact a2
   ·have hl':decide ((o.length:Int)<10)=false:=by simp;omega
    obtain ⟨a1,a2⟩:=ih (i+1) o (by omega) ho;rw [qc (by simp [hl])];refine ⟨zk6 _ _ _ _ _ ?_,zkI _ _ _ _ _ ?_⟩
    ·simp only [zfc,hlt,zd h1,hl',qa,qf,qe,qg,qd];rw [zb (by omega)];exact a1
    ·simp only [zfA,hlt,zd h1,hl',x1,u2,hu,qa,qf,qe,qg,qd];rw [zb (by omega)];exact a2
  ·rw [Bool.not_eq_true] at hu;obtain ⟨a1,a2⟩:=ih (i+1) o (by omega) ho;rw [qc (by simp [hu])];refine ⟨zk6 _ _ _ _ _ ?_,zkI _ _ _ _ _ ?_⟩
   ·simp only [zfc,hlt,zd h1,x1,u1,hu,qa,qf,qe,qg,qd];split<;>(simp only [qa,qd];rw [zb (by omega)];exact a1)
   ·simp only [zfA,hlt,zd h1,x1,u2,hu,qa,qf,qe,qg,qd];rw [zb (by omega)];exact a2
theorem zGc:zoE M steps ps=some ((unF steps [] ps,()),())∧zha M steps ps=some ((unF steps [] ps,()),()):=by
 obtain ⟨a1,a2⟩:=zJD s steps hsc ps hp hps ps.length 0 [] (by omega) (by simp);rw [e0x,qk] at a1 a2;refine ⟨zCC _ _ ?_,zCm _ _ ?_⟩
 ·simp only [zsp,a1,qa,qd]
 ·simp only [zst,a2,qa,qd]
end
theorem zzt (s:TSign) (hs:s.1.length<=1048576) (a:List TStep) (ha:a.length<=1048576) (hx: ∀x∈a,smP x):zg8 M s a=some ((gS s.1&&(decide (a.length<=200)&&clS s.1 a),()),()):=by
 cases hg:gS s.1 with
 | true=>rw [zDi s hs hg a ha hx,Bool.true_and]
 | false=>
  have h: ∀k i:Nat,i+k=a.length->zc9 M a s a a.length i=some (.inl (a,s,()))∨zc9 M a s a a.length i=some (.inr ((false,()),())):=by
   intro k
   induction k with
   | zero=>
    intro i hi;obtain rfl:i=a.length:=by omega
    refine .inl (zfD _ _ _ _ _ ?_);simp only [zdD,za]
    rw [qc (by simp)]
   | succ k ih=>
    intro i hi;have h1:i<a.length:=by omega
    obtain ⟨_,_,c1,c2⟩:=hx _ (qi h1);obtain ⟨b,hb⟩:=zAi s hs a[i].2.2.2.1 c1 c2
    have hq:zdD M a s a a.length i=if b=true then zc9 M a s a a.length ((i+1:Nat):Int) else some (.inr ((false,()),())):=by
     simp only [zdD,za];rw [qb (by simpa using h1),zd h1,zb (by omega)];simp only [qa,hb];cases b<;>rfl
    cases b with
    | false=>exact .inr (zfD _ _ _ _ _ hq)
    | true=>
     rcases ih (i+1) (by omega) with h | h
     ·exact .inl (zfD _ _ _ _ _ (hq.trans h))
     ·exact .inr (zfD _ _ _ _ _ (hq.trans h))
  have h0:=h a.length 0 (by omega);rw [e0x] at h0;apply zwH;rcases h0 with h0 | h0
  ·simp only [zl3,za,h0,qa,qd,zig s (show s.1.length<=17592186044416 by omega),hg];rfl
  ·simp only [zl3,za,h0,qa,qF];rfl
theorem zKv (n:Nat) (hn:n<=1048576) (l:List Int) (hl:l.length<=1048576):zjH M l 0 (IntKind.i64.wrap ((n:Int)-1))=some ((ofN n l,()),()):=by
 rw [w64 (by omega) (by omega),zGg l 0 ((n:Int)-1) (by omega)];congr 3;unfold ofN;congr 1;funext k;congr 1;rw [decide_eq_decide];omega
theorem zFH (s:TSign) (hs:s.1.length<=1048576) (steps:List TStep) (hl:steps.length<=1048576) (hx: ∀x∈steps,smP x) (ps:List Int) (hp:ps.length<=1048576) (round:Int): ∃(k:Int) (ok:Bool),zk5 M s steps ps round=some ((k,ok,()),())∧zkB M s steps ps round=some ((k,ok,()),())∧(ok=true->k∈ps):=by
 have gI:=zku s (show s.1.length<=17592186044416 by omega);have sS:=zzt s hs steps hl hx;have aI:=zCf steps ps hp;have aS:=zKv steps.length hl ps hp
 cases hg:gS s.1 with
 | false=>
  rw [hg] at gI sS;refine ⟨0,false,znK _ _ _ _ ?_,znF _ _ _ _ ?_,fun h=>by cases h⟩
  ·simp only [zif,za,gI,qa];rfl
  ·simp only [zib,za,sS,qa];rfl
 | true=>
 rw [hg] at gI sS;rw [Bool.true_and] at sS;have sI:=zxG s hg steps hl hx
 cases hst:(decide (steps.length<=200)&&clS s.1 steps) with
 | false=>
  rw [hst] at sI sS;refine ⟨0,false,znK _ _ _ _ ?_,znF _ _ _ _ ?_,fun h=>by cases h⟩
  ·simp only [zif,za,gI,sI,qa];rfl
  ·simp only [zib,za,sS,qa];rfl
 | true=>
 rw [hst] at sI sS;simp only [qq] at hst;have hsc: ∀x∈steps,clOK s.1 x.2.2.2.1=true:=List.all_eq_true.1 hst.2;by_cases hA:ofN steps.length ps=true∧0<ps.length∧1<=round
 ·obtain ⟨h1,h2,h3⟩:=hA;rw [h1] at aI aS
  have hps: ∀k∈ps,0<=k∧k<(steps.length:Int):=by
   intro k hk;have:=List.all_eq_true.1 h1 k hk;simpa only [qq,qt] using this
  obtain ⟨j,hj,c1,c2⟩:=zDj s steps hsc ps hp hps round h2;have e0:((ps.length:Int)==0)=false:=beq_eq_false_iff_ne.2 (by omega);have er:decide (round<1)=false:=by simp;omega
  refine ⟨ps[j],true,znK _ _ _ _ ?_,znF _ _ _ _ ?_,fun _=>qi hj⟩
  ·simp only [zif,za,gI,sI,aI,e0,er,c1,zd hj,qa];rfl
  ·simp only [zib,za,sS,aS,e0,er,c2,qa];rfl
 ·refine ⟨0,false,znK _ _ _ _ ?_,znF _ _ _ _ ?_,fun h=>by cases h⟩
  ·simp only [zif,za,gI,sI,aI,qa,qm,qg,qe];by_cases h1:ofN steps.length ps=true
   ·rw [h1,qc (by simp)];by_cases h2:0<ps.length
    ·have h3:round<1:=by
      rcases Int.lt_or_le round 1 with q | q
      ·exact q
      ·exact (hA ⟨h1,h2,q⟩).elim
     rw [qc (by simp;intro e;rw [e] at h2;simp at h2),qb (by simpa using h3)]
    ·rw [qb (by simp;exact wd.1 (by omega))]
   ·rw [qb (by simpa using h1)]
  ·simp only [zib,za,sS,aS,qa,qm,qg,qe];by_cases h2:0<ps.length
   ·rw [qc (by simp;intro e;rw [e] at h2;simp at h2)];by_cases h1:ofN steps.length ps=true
    ·have h3:round<1:=by
      rcases Int.lt_or_le round 1 with q | q
      ·exact q
      ·exact (hA ⟨h1,h2,q⟩).elim
     rw [h1,qc (by simp),qb (by simpa using h3)]
    ·rw [qb (by simpa using h1)]
   ·rw [qb (by simp;exact wd.1 (by omega))]
theorem zG0 (s:TSign) (hs:s.1.length<=1048576) (steps:List TStep) (hl:steps.length<=1048576) (hx: ∀x∈steps,smP x) (ps:List Int) (hp:ps.length<=1048576): ∃(u:List Int) (ok:Bool),zlN M s steps ps=some ((u,ok,()),())∧zlZ M s steps ps=some ((u,ok,()),())∧u.length<=10:=by
 have gI:=zku s (show s.1.length<=17592186044416 by omega);have sS:=zzt s hs steps hl hx;have aI:=zCf steps ps hp;have aS:=zKv steps.length hl ps hp
 cases hg:gS s.1 with
 | false=>
  rw [hg] at gI sS;refine ⟨[],false,zov _ _ _ ?_,zou _ _ _ ?_,by simp⟩
  ·simp only [zjk,za,gI,qa];rfl
  ·simp only [zjl,za,sS,qa];rfl
 | true=>
 rw [hg] at gI sS;rw [Bool.true_and] at sS;have sI:=zxG s hg steps hl hx
 cases hst:(decide (steps.length<=200)&&clS s.1 steps) with
 | false=>
  rw [hst] at sI sS;refine ⟨[],false,zov _ _ _ ?_,zou _ _ _ ?_,by simp⟩
  ·simp only [zjk,za,gI,sI,qa];rfl
  ·simp only [zjl,za,sS,qa];rfl
 | true=>
 rw [hst] at sI sS;simp only [qq] at hst;have hsc: ∀x∈steps,clOK s.1 x.2.2.2.1=true:=List.all_eq_true.1 hst.2
 cases h1:ofN steps.length ps with
 | false=>
  rw [h1] at aI aS;refine ⟨[],false,zov _ _ _ ?_,zou _ _ _ ?_,by simp⟩
  ·simp only [zjk,za,gI,sI,aI,qa];rfl
  ·simp only [zjl,za,sS,aS,qa];rfl
 | true=>
  rw [h1] at aI aS
  have hps: ∀k∈ps,0<=k∧k<(steps.length:Int):=by
   intro k hk;have:=List.all_eq_true.1 h1 k hk;simpa only [qq,qt] using this
  obtain ⟨u1,u2⟩:=zGc s steps hsc ps hp hps;refine ⟨unF steps [] ps,true,zov _ _ _ ?_,zou _ _ _ ?_,zB6 steps ps [] (by simp)⟩
  ·simp only [zjk,za,gI,sI,aI,u1,qa];rfl
  ·simp only [zjl,za,sS,aS,u2,qa];rfl
end Go.Proofs.YtchkojfhcdcnmaaGreatMd.Ev
