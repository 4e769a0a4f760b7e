/- Texts laid together: XAi, XAj, YAa, SGay, SGby, XAe, YS, WAky, YAb, YAc, YAd, XAkz; no condition but those that each theorem names. -/
import Derived.Test.YtchkojfhcdcnmaaGreatCkXAc
import Derived.Test.YtchkojfhcdcnmaaGreatCkQKa
namespace Go.Proofs.YtchkojfhcdcnmaaGreatCk.Ev
open Go
set_option autoImplicit false
set_option linter.unusedVariables false
set_option linter.unusedSimpArgs false
def gtC (steps:List TStep) (k:Int):List TLit:=match idx steps k with
 | some x=>x.2.2.2.1
 | none=> []
theorem ztK {steps:List TStep} {k:Nat} (h:k<steps.length):gtC steps (k:Int)=steps[k].2.2.2.1:=by
 unfold gtC;rw [zd h]
theorem zkL {α:Type} {xs:List α} {k:Int} (h0:0<=k) (h1:k<(xs.length:Int)): ∃n:Nat,k=(n:Int)∧n<xs.length:=⟨k.toNat,by omega,by omega⟩
section
variable (s : TSign) (hg : gS s.1 = true) (inputs : List (List TLit)) (hi : inputs.length <= 1048576) (hic : ∀ c ∈ inputs, clOK s.1 c = true) (steps : List TStep) (hs : steps.length <= 1048576) (hsc : ∀ x ∈ steps, clOK s.1 x.2.2.2.1 = true) (ps way : List Int) (hp : ps.length <= 1048576) (hw : way.length <= 1048576) (hps : ∀ k ∈ ps, 0 <= k ∧ k < (steps.length : Int))
theorem zhh (a b:Int):zdn M a b ps way=some (((((ps.length:Int)==a)&&((way.length:Int)==b)),()),()):=by
 apply zxA;simp only [zmU];cases ((ps.length:Int)==a)<;>rfl
include hps in
theorem zkW (i:Nat) (h:i<ps.length):zF M (i:Int) steps ps=some ((gtC steps ps[i],()),()):=by
 obtain ⟨h0,h1⟩:=hps _ (qi h);obtain ⟨n,e,hn⟩:=zkL h0 h1;apply zw8;simp only [zmR,zd h,qa,e,zd hn,ztK hn]
include hps hs hp in
theorem zq8 (rule:Int): ∀(k i:Nat) (o:List (List TLit)),i+k=ps.length->o.length<=i->ziL M inputs steps rule way s o ps ps.length i=some (.inl (inputs,rule,way,s,o++(ps.drop i).map (gtC steps),())):=by
 intro k
 induction k with
 | zero=>
  intro i o hi ho;obtain rfl:i=ps.length:=by omega
  apply zsL;simp only [zki,za];rw [qc (by simp),qG]
  simp
 | succ k ih=>
  intro i o hi ho;have h:i<ps.length:=by omega
  obtain ⟨h0,h1⟩:=hps _ (qi h);obtain ⟨n,e,hn⟩:=zkL h0 h1
  have hin:zV M (n:Int) 0 (IntKind.i64.wrap ((steps.length:Int)-1))=some ((true,()),()):=by
   rw [w64 (by omega) (by omega),zfq,qp (by omega),qp (by omega)];rfl
  apply zsL;simp only [zki,za];rw [qb (by simpa using h),zd h];simp only [qa,e,hin,zd hn,qn,qg,qe];rw [qb (by simp;omega),zb (by omega),ih (i+1) _ (by omega) (by simp;omega),qj h,qJ,e,ztK hn,qE];rfl
include hsc hps in
theorem zkY (i:Nat) (h:i<ps.length):clOK s.1 (gtC steps ps[i])=true:=by
 obtain ⟨h0,h1⟩:=hps _ (qi h);obtain ⟨n,e,hn⟩:=zkL h0 h1;rw [e,ztK hn];exact hsc _ (qi hn)
def SndM (C:List TLit):Prop:= ∀w:TWorld,wOK s.1 w=true->(∀c∈inputs,HOL s.1 w c)->(∀k∈ps,HOL s.1 w (gtC steps k))->HOL s.1 w C
def okMade (rule:Int):Prop:= ∃(ok:Bool) (C1 C2:List TLit),zlz M s inputs steps rule ps way=some ((C1,ok,()),())∧zlT M s inputs steps rule ps way=some ((C2,ok,()),())∧(ok=true->C1=C2∧clOK s.1 C1=true∧SndM s inputs steps ps C1)
theorem zv3 (c:List TLit) (n:Int):zhf M c n=some ((c,((n==0) || (n==5)),()),()):=by
 apply zzL;simp only [zpZ];cases (n==0)<;>rfl
include hg hi hic hs hps hp
theorem zHO:okMade s inputs steps ps way 1:=by
 have L:=zq8 s inputs steps hs ps way hp hps 1 ps.length 0 [] (by omega) (by simp);rw [show ((0:Nat):Int)=0 from rfl,qk,qB] at L;have hl:(((ps.map (gtC steps)).length:Nat):Int)=(ps.length:Int):=by simp
 cases hA:((ps.length:Int)==0) with
 | false=>
  refine ⟨false,[],[],zO _ _ _ _ _ _ ?_,zaw _ _ _ _ _ _ ?_,fun h=>by cases h⟩
  ·simp only [zE,zhh,hA,qa];rfl
  ·simp only [zah,za,L,hl,hA,qa,qd];rfl
 | true=>
 cases hB:((way.length:Int)==1) with
 | false=>
  refine ⟨false,[],[],zO _ _ _ _ _ _ ?_,zaw _ _ _ _ _ _ ?_,fun h=>by cases h⟩
  ·simp only [zE,zhh,hA,hB,qa];rfl
  ·simp only [zah,za,L,hl,hA,hB,qa,qd];rfl
 | true=>
 have hw1:0<way.length:=by
  have:(way.length:Int)=1:=by simpa using hB
  omega
 obtain ⟨w,hx⟩: ∃w:Int,idx way 0=some w:=⟨_,zd hw1⟩;have hin:zV M w 0 (IntKind.i64.wrap ((inputs.length:Int)-1))=some ((decide ((0:Int)<=w)&&decide (w<=(inputs.length:Int)-1),()),()):=by rw [w64 (by omega) (by omega),zfq]
 by_cases h0:0<=w
 ·by_cases h1:w<(inputs.length:Int)
  ·obtain ⟨n,e,hn⟩:=zkL h0 h1;rw [qp h0,qp (by omega)] at hin;have hc:=hic _ (qi hn);obtain ⟨c1,c2⟩:=zq.1 hc;obtain ⟨o1,o2⟩:=zjZ inputs[n] (by omega) (fun x hx=>by have:=zci (c2 x hx);omega);refine ⟨true,_,_,zO _ _ _ _ _ _ ?_,zaw _ _ _ _ _ _ ?_,fun _=>⟨rfl,zts c1 c2,fun w' hw hI _=>zt7 hg hw (hI _ (qi hn)) c2⟩⟩
   ·simp only [zE,zhh,hA,hB,hx,qa];simp only [qp (show w>=0 from h0),qp h1,Bool.and_self,qf,qa,qd,hx,wb];simp only [e,zd hn,o1,qa];rfl
   ·simp only [zah,za,L,hl,hA,hB,hx,hin,qa,qd,wb,qf,Bool.and_self];simp only [e,zd hn,o2,qa];rfl
  ·rw [qp h0,qr (by omega)] at hin;refine ⟨false,[],[],zO _ _ _ _ _ _ ?_,zaw _ _ _ _ _ _ ?_,fun h=>by cases h⟩
   ·simp only [zE,zhh,hA,hB,hx,qa];simp only [qp (show w>=0 from h0),qr h1,Bool.and_self,qf,qa,qd,hx,wb];rfl
   ·simp only [zah,za,L,hl,hA,hB,hx,hin,qa,qd];rfl
 ·rw [qr h0] at hin;refine ⟨false,[],[],zO _ _ _ _ _ _ ?_,zaw _ _ _ _ _ _ ?_,fun h=>by cases h⟩
  ·simp only [zE,zhh,hA,hB,hx,qa];simp only [qr (show ¬w>=0 from h0),Bool.and_self,qf,qa,qd,wb];rfl
  ·simp only [zah,za,L,hl,hA,hB,hx,hin,qa,qd];rfl
include hsc
omit hi hic
theorem zHr:okMade s inputs steps ps way 2:=by
 have L:=zq8 s inputs steps hs ps way hp hps 2 ps.length 0 [] (by omega) (by simp);rw [show ((0:Nat):Int)=0 from rfl,qk,qB] at L;have hl:(((ps.map (gtC steps)).length:Nat):Int)=(ps.length:Int):=by simp
 have d1:((2:Int)==1)=false:=rfl;have d2:((2:Int)==2)=true:=rfl;have d3:((2:Int)==3)=false:=rfl;have d4:((2:Int)==4)=false:=rfl;have d5:((2:Int)==5)=false:=rfl
 cases hA:((ps.length:Int)==2) with
 | false=>
  refine ⟨false,[],[],zO _ _ _ _ _ _ ?_,zaw _ _ _ _ _ _ ?_,fun h=>by cases h⟩
  ·simp only [zE,zhh,hA,qa];rfl
  ·simp only [zah,za,L,hl,hA,d1,d2,d3,d4,d5,qa,qd,qf,qg,qe];rfl
 | true=>
 cases hB:((way.length:Int)==5) with
 | false=>
  refine ⟨false,[],[],zO _ _ _ _ _ _ ?_,zaw _ _ _ _ _ _ ?_,fun h=>by cases h⟩
  ·simp only [zE,zhh,hA,hB,qa];rfl
  ·simp only [zah,za,L,hl,hA,hB,d1,d2,d3,d4,d5,qa,qd,qf,qg,qe];rfl
 | true=>
 obtain ⟨a,b,rfl⟩: ∃a b,ps= [a,b]:=by
  have:ps.length=2:=by have:(ps.length:Int)=2:=(by simpa using hA);omega
  match ps,this with
  | [a,b],_=>exact ⟨a,b,rfl⟩
 obtain ⟨w0,w1,w2,w3,w4,rfl⟩: ∃w0 w1 w2 w3 w4,way= [w0,w1,w2,w3,w4]:=by
  have:way.length=5:=by have:(way.length:Int)=5:=(by simpa using hB);omega
  match way,this with
  | [w0,w1,w2,w3,w4],_=>exact ⟨w0,w1,w2,w3,w4,rfl⟩
 have m0:zF M 0 steps [a,b]=some ((gtC steps a,()),()):=zkW steps [a,b] hps 0 (by simp);have k0:clOK s.1 (gtC steps a)=true:=zkY s steps hsc [a,b] hps 0 (by simp);have m1:zF M 1 steps [a,b]=some ((gtC steps b,()),()):=zkW steps [a,b] hps 1 (by simp);have k1:clOK s.1 (gtC steps b)=true:=zkY s steps hsc [a,b] hps 1 (by simp);have i0:idx [w0,w1,w2,w3,w4] 0=some w0:=rfl;have i1:idx [w0,w1,w2,w3,w4] 1=some w1:=rfl;have i2:idx [w0,w1,w2,w3,w4] 2=some w2:=rfl;have i3:idx [w0,w1,w2,w3,w4] 3=some w3:=rfl;have i4:idx [w0,w1,w2,w3,w4] 4=some w4:=rfl;rw [show List.map (gtC steps) [a,b]= [gtC steps a,gtC steps b] from rfl] at L hl;obtain ⟨r,r1,r2,r3⟩:=zzb s hg (gtC steps a) (gtC steps b) k0 k1 w0 w1 w2 w3 w4;have g0:0<=(0:Int)∧(0:Int)<(([a,b].length:Nat):Int):=⟨by simp,by simp⟩;have j0: [gtC steps a,gtC steps b][(0:Int).toNat]?=some (gtC steps a):=rfl;have g1:0<=(1:Int)∧(1:Int)<(([a,b].length:Nat):Int):=⟨by simp,by simp⟩;have j1: [gtC steps a,gtC steps b][(1:Int).toNat]?=some (gtC steps b):=rfl;refine ⟨((r.1.2.1==0) || (r.1.2.1==5)),r.1.1,r.1.1,zO _ _ _ _ _ _ ?_,zaw _ _ _ _ _ _ ?_,fun h=>⟨rfl,r3.1,fun w' hw _ hP=>r3.2 (by simpa using h) w' hw (hP a (by simp)) (hP b (by simp))⟩⟩
 ·simp only [zE,zhh,hA,hB,d1,d2,d3,d4,d5,m0,m1,i0,i1,i2,i3,i4,za,r1,zv3,qa,Bool.and_self,qf,qg,qe];rfl
 ·simp only [zah,za,L,hl,hA,hB,d1,d2,d3,d4,d5,qa,qd,qf,qg,qe];rw [qb g0];simp only [j0,qa];rw [qb g1];simp only [j1,qa];simp only [i0,i1,i2,i3,i4,r2,qa,qd];cases (r.1.2.1==0)<;>rfl
theorem zE6:okMade s inputs steps ps way 3:=by
 have L:=zq8 s inputs steps hs ps way hp hps 3 ps.length 0 [] (by omega) (by simp);rw [show ((0:Nat):Int)=0 from rfl,qk,qB] at L;have hl:(((ps.map (gtC steps)).length:Nat):Int)=(ps.length:Int):=by simp
 have d1:((3:Int)==1)=false:=rfl;have d2:((3:Int)==2)=false:=rfl;have d3:((3:Int)==3)=true:=rfl;have d4:((3:Int)==4)=false:=rfl;have d5:((3:Int)==5)=false:=rfl
 cases hA:((ps.length:Int)==1) with
 | false=>
  refine ⟨false,[],[],zO _ _ _ _ _ _ ?_,zaw _ _ _ _ _ _ ?_,fun h=>by cases h⟩
  ·simp only [zE,zhh,hA,qa];rfl
  ·simp only [zah,za,L,hl,hA,d1,d2,d3,d4,d5,qa,qd,qf,qg,qe];rfl
 | true=>
 cases hB:((way.length:Int)==1) with
 | false=>
  refine ⟨false,[],[],zO _ _ _ _ _ _ ?_,zaw _ _ _ _ _ _ ?_,fun h=>by cases h⟩
  ·simp only [zE,zhh,hA,hB,qa];rfl
  ·simp only [zah,za,L,hl,hA,hB,d1,d2,d3,d4,d5,qa,qd,qf,qg,qe];rfl
 | true=>
 obtain ⟨a,rfl⟩: ∃a,ps= [a]:=by
  have:ps.length=1:=by have:(ps.length:Int)=1:=(by simpa using hA);omega
  match ps,this with
  | [a],_=>exact ⟨a,rfl⟩
 obtain ⟨w0,rfl⟩: ∃w0,way= [w0]:=by
  have:way.length=1:=by have:(way.length:Int)=1:=(by simpa using hB);omega
  match way,this with
  | [w0],_=>exact ⟨w0,rfl⟩
 have m0:zF M 0 steps [a]=some ((gtC steps a,()),()):=zkW steps [a] hps 0 (by simp);have k0:clOK s.1 (gtC steps a)=true:=zkY s steps hsc [a] hps 0 (by simp);have i0:idx [w0] 0=some w0:=rfl;rw [show List.map (gtC steps) [a]= [gtC steps a] from rfl] at L hl;obtain ⟨r,r1,r2,r3⟩:=zxH s hg (gtC steps a) k0 w0;have g0:0<=(0:Int)∧(0:Int)<(([a].length:Nat):Int):=⟨by simp,by simp⟩;have j0: [gtC steps a][(0:Int).toNat]?=some (gtC steps a):=rfl;refine ⟨((r.1.2.1==0) || (r.1.2.1==5)),r.1.1,r.1.1,zO _ _ _ _ _ _ ?_,zaw _ _ _ _ _ _ ?_,fun h=>⟨rfl,r3.1,fun w' hw _ hP=>r3.2 (by simpa using h) w' hw (hP a (by simp))⟩⟩
 ·simp only [zE,zhh,hA,hB,d1,d2,d3,d4,d5,m0,i0,za,r1,zv3,qa,Bool.and_self,qf,qg,qe];rfl
 ·simp only [zah,za,L,hl,hA,hB,d1,d2,d3,d4,d5,qa,qd,qf,qg,qe];rw [qb g0];simp only [j0,qa];simp only [i0,r2,qa,qd];cases (r.1.2.1==0)<;>rfl
theorem zF5:okMade s inputs steps ps way 4:=by
 have L:=zq8 s inputs steps hs ps way hp hps 4 ps.length 0 [] (by omega) (by simp);rw [show ((0:Nat):Int)=0 from rfl,qk,qB] at L;have hl:(((ps.map (gtC steps)).length:Nat):Int)=(ps.length:Int):=by simp
 have d1:((4:Int)==1)=false:=rfl;have d2:((4:Int)==2)=false:=rfl;have d3:((4:Int)==3)=false:=rfl;have d4:((4:Int)==4)=true:=rfl;have d5:((4:Int)==5)=false:=rfl
 cases hA:((ps.length:Int)==1) with
 | false=>
  refine ⟨false,[],[],zO _ _ _ _ _ _ ?_,zaw _ _ _ _ _ _ ?_,fun h=>by cases h⟩
  ·simp only [zE,zhh,hA,qa];rfl
  ·simp only [zah,za,L,hl,hA,d1,d2,d3,d4,d5,qa,qd,qf,qg,qe];rfl
 | true=>
 cases hB:((way.length:Int)==4) with
 | false=>
  refine ⟨false,[],[],zO _ _ _ _ _ _ ?_,zaw _ _ _ _ _ _ ?_,fun h=>by cases h⟩
  ·simp only [zE,zhh,hA,hB,qa];rfl
  ·simp only [zah,za,L,hl,hA,hB,d1,d2,d3,d4,d5,qa,qd,qf,qg,qe];rfl
 | true=>
 obtain ⟨a,rfl⟩: ∃a,ps= [a]:=by
  have:ps.length=1:=by have:(ps.length:Int)=1:=(by simpa using hA);omega
  match ps,this with
  | [a],_=>exact ⟨a,rfl⟩
 obtain ⟨w0,w1,w2,w3,rfl⟩: ∃w0 w1 w2 w3,way= [w0,w1,w2,w3]:=by
  have:way.length=4:=by have:(way.length:Int)=4:=(by simpa using hB);omega
  match way,this with
  | [w0,w1,w2,w3],_=>exact ⟨w0,w1,w2,w3,rfl⟩
 have m0:zF M 0 steps [a]=some ((gtC steps a,()),()):=zkW steps [a] hps 0 (by simp);have k0:clOK s.1 (gtC steps a)=true:=zkY s steps hsc [a] hps 0 (by simp);have i0:idx [w0,w1,w2,w3] 0=some w0:=rfl;have i1:idx [w0,w1,w2,w3] 1=some w1:=rfl;have i2:idx [w0,w1,w2,w3] 2=some w2:=rfl;have i3:idx [w0,w1,w2,w3] 3=some w3:=rfl;rw [show List.map (gtC steps) [a]= [gtC steps a] from rfl] at L hl;obtain ⟨r,r1,r2,r3⟩:=zyP s hg (gtC steps a) k0 w0 w1 w2 w3 0;have g0:0<=(0:Int)∧(0:Int)<(([a].length:Nat):Int):=⟨by simp,by simp⟩;have j0: [gtC steps a][(0:Int).toNat]?=some (gtC steps a):=rfl;refine ⟨((r.1.2.1==0) || (r.1.2.1==5)),r.1.1,r.1.1,zO _ _ _ _ _ _ ?_,zaw _ _ _ _ _ _ ?_,fun h=>⟨rfl,r3.1,fun w' hw _ hP=>r3.2 (by simpa using h) w' hw (hP a (by simp))⟩⟩
 ·simp only [zE,zhh,hA,hB,d1,d2,d3,d4,d5,m0,i0,i1,i2,i3,za,r1,zv3,qa,Bool.and_self,qf,qg,qe];rfl
 ·simp only [zah,za,L,hl,hA,hB,d1,d2,d3,d4,d5,qa,qd,qf,qg,qe];rw [qb g0];simp only [j0,qa];simp only [i0,i1,i2,i3,r2,qa,qd];cases (r.1.2.1==0)<;>rfl
end
def isU:List TLit->Bool
 | [x]=>x.1
 | _=>false
def hdL (c:List TLit):TLit:=c.headD (true,[],[],())
theorem zq9 {c:List TLit} (h:isU c=true):c= [hdL c]:=by
 match c,h with
 | [x],_=>rfl
theorem zwc (c:List TLit) (hc:c.length<=1048576):zoC M c=some ((isU c,()),())∧zjh M c=some ((isU c,()),()):=by
 match c,hc with
 | [],_=>exact ⟨zsj _ rfl,zsA _ rfl⟩
 | [x],_=>exact ⟨zsj _ rfl,zsA _ rfl⟩
 | x::y::r,h=>
  have e:(((x::y::r).length:Int)==1)=false:=by simp;omega
  refine ⟨zsj _ ?_,zsA _ ?_⟩
  ·simp only [zsz,e,qg,qe];rfl
  ·simp only [zsK,e,qg,qe];rfl
def failC:(List TLit×Bool×Unit)×Unit:=(([],false,()),())
section
variable (s : TSign) (hg : gS s.1 = true) (inputs : List (List TLit)) (hi : inputs.length <= 1048576) (hic : ∀ c ∈ inputs, clOK s.1 c = true) (steps : List TStep) (hs : steps.length <= 1048576) (hsc : ∀ x ∈ steps, clOK s.1 x.2.2.2.1 = true) (ps way : List Int) (hp : ps.length <= 1048576) (hw : way.length <= 1048576) (hps : ∀ k ∈ ps, 0 <= k ∧ k < (steps.length : Int))
include hps hp hsc in
theorem p_uI: ∀(m k:Nat) (units:List TLit),k+m=ps.length->units.length<=k->zdl M s ps (steps,ps,()) units k=some (if ((ps.drop k).map (gtC steps)).all isU=true then .inl (s,(steps,ps,()),units++((ps.drop k).map (gtC steps)).map hdL,()) else .inr failC):=by
 intro m
 induction m with
 | zero=>
  intro k units hk hu;obtain rfl:k=ps.length:=by omega
  apply zmB;simp only [ze2,za];rw [qc (by simp),qG]
  simp
 | succ m ih=>
  intro k units hk hu;have h:k<ps.length:=by omega
  have h1:=zkW steps ps hps k h;have hc:=(zq.1 (zkY s steps hsc ps hps k h)).1;have hU:=(zwc (gtC steps ps[k]) (by omega)).1;apply zmB;simp only [ze2,za];rw [qb (by simpa using h)];simp only [h1,hU,qa];rw [qj h,qJ,qT]
  cases hq:isU (gtC steps ps[k]) with
  | false=>rfl
  | true=>
   have e:=zq9 hq
   have hx:idx (gtC steps ps[k]) 0=some (hdL (gtC steps ps[k])):=by
    rw [e];rfl
   simp only [qn,qg,qe,hx,qa,Bool.true_and,zg];rw [qb (by simp;omega),zb (by omega),ih (k+1) _ (by omega) (by simp;omega),qE];rfl
theorem p_uS (P D:List (List TLit)) (hD:D.length<=1048576) (hDc: ∀c∈D,c.length<=1048576): ∀(m i:Nat) (units:List TLit),i+m=D.length->units.length<=i->ze0 M s P units D D.length i=some (if (D.drop i).all isU=true then .inl (s,P,units++(D.drop i).map hdL,()) else .inr failC):=by
 intro m
 induction m with
 | zero=>
  intro i units hk hu;obtain rfl:i=D.length:=by omega
  apply zoq;simp only [zgo,za];rw [qc (by simp),qG]
  simp
 | succ m ih=>
  intro i units hk hu;have h:i<D.length:=by omega
  have hU:=(zwc D[i] (hDc _ (qi h))).2;apply zoq;simp only [zgo,za];rw [qb (by simpa using h),zd h];simp only [hU,qa];rw [qj h,qJ,qT]
  cases hq:isU D[i] with
  | false=>rfl
  | true=>
   have e:=zq9 hq
   have hx:idx D[i] 0=some (hdL D[i]):=by
    rw [e];rfl
   simp only [qn,qg,qe,hx,qa,Bool.true_and,zg];rw [qb (by simp;omega),zb (by omega),ih (i+1) _ (by omega) (by simp;omega),qE];rfl
include hg hs hsc hps hp hw
theorem zGM:okMade s inputs steps ps way 5:=by
 have L:=zq8 s inputs steps hs ps way hp hps 5 ps.length 0 [] (by omega) (by simp);rw [show ((0:Nat):Int)=0 from rfl,qk,qB] at L;have hl:(((ps.map (gtC steps)).length:Nat):Int)=(ps.length:Int):=by simp
 have d1:((5:Int)==1)=false:=rfl;have d2:((5:Int)==2)=false:=rfl;have d3:((5:Int)==3)=false:=rfl;have d4:((5:Int)==4)=false:=rfl;have d5:((5:Int)==5)=true:=rfl;have hin:=zfq (ps.length:Int) 1 11;by_cases hA:1<=ps.length∧ps.length<=11
 case neg=>
  have e:(decide ((1:Int)<=(ps.length:Int))&&decide ((ps.length:Int)<=11))=false:=by
   rw [Bool.and_eq_false_iff];simp only [decide_eq_false_iff_not];omega
  rw [e] at hin;refine ⟨false,[],[],zO _ _ _ _ _ _ ?_,zaw _ _ _ _ _ _ ?_,fun h=>by cases h⟩
  ·simp only [zE,d1,d2,d3,d4,d5,za,qf,qg,qe];by_cases h1:ps.length<1
   ·rw [qb (by simp;omega)];rfl
   ·rw [qc (by simp;omega),qb (by simp;omega)];rfl
  ·simp only [zah,za,L,hl,hin,d1,d2,d3,d4,d5,qa,qd,qf,qg,qe];rfl
 case pos=>
 rw [qp (by omega),qp (by omega)] at hin;have n1:decide ((ps.length:Int)<1)=false:=by simp;omega
 have n2:decide ((ps.length:Int)>11)=false:=by simp;omega
 by_cases hB:way.length=0
 case neg=>
  have b1:decide ((way.length:Int)>0)=true:=qp (by omega);have b2:((way.length:Int)==0)=false:=beq_eq_false_iff_ne.2 (by omega);refine ⟨false,[],[],zO _ _ _ _ _ _ ?_,zaw _ _ _ _ _ _ ?_,fun h=>by cases h⟩
  ·simp only [zE,d1,d2,d3,d4,d5,n1,n2,b1,za,qf,qg,qe];rfl
  ·simp only [zah,za,L,hl,hin,b2,d1,d2,d3,d4,d5,qa,qd,qf,qg,qe];rfl
 case pos=>
 have b1:decide ((way.length:Int)>0)=false:=qr (by omega);have b2:((way.length:Int)==0)=true:=beq_iff_eq.2 (by omega);have hp0:0<ps.length:=by omega
 have m0:=zkW steps ps hps 0 hp0;have k0:=zkY s steps hsc ps hps 0 hp0;rw [show ((0:Nat):Int)=0 from rfl] at m0;have uI:=p_uI s steps hsc ps hp hps (ps.length-1) 1 [] (by omega) (by simp);rw [show ((1:Nat):Int)=1 from rfl] at uI
 have hDrop:((ps.map (gtC steps)).take (Int.toNat ((ps.map (gtC steps)).length:Int))).drop (Int.toNat (1:Int))=(ps.drop 1).map (gtC steps):=by
  rw [qo,List.take_length,show (1:Int).toNat=1 from rfl,List.map_drop]
 have hDrop':((ps.map (gtC steps)).take (Int.toNat (ps.length:Int))).drop (Int.toNat (1:Int))=(ps.drop 1).map (gtC steps):=by rw [<-hl];exact hDrop
 have hmem: ∀c∈(ps.drop 1).map (gtC steps),clOK s.1 c=true:=by
  intro c hc;obtain ⟨k,hk,rfl⟩:=qP.1 hc;obtain ⟨i,hi,rfl⟩:=List.getElem_of_mem (List.mem_of_mem_drop hk);exact zkY s steps hsc ps hps i hi
 have uS:=p_uS s (ps.map (gtC steps)) ((ps.drop 1).map (gtC steps)) (by simp;omega) (fun c hc=>by have:=(zq.1 (hmem c hc)).1;omega) ((ps.drop 1).map (gtC steps)).length 0 [] (by omega) (by simp);rw [show ((0:Nat):Int)=0 from rfl,qk] at uS;have g1:0<=(1:Int)∧(1:Int)<=(ps.length:Int)∧(ps.length:Int)<=(ps.length:Int):=by omega
 cases hall:((ps.drop 1).map (gtC steps)).all isU with
 | false=>
  rw [hall,qc (by simp)] at uI uS;refine ⟨false,[],[],zO _ _ _ _ _ _ ?_,zaw _ _ _ _ _ _ ?_,fun h=>by cases h⟩
  ·simp only [zE,d1,d2,d3,d4,d5,n1,n2,b1,za,uI,qa,qd,qF,qf,qg,qe];rfl
  ·simp only [zah,za,L,hl,hin,b2,d1,d2,d3,d4,d5,qa,qd,qf,qg,qe,Bool.and_self];rw [qb g1,hDrop',uS]
   rfl
 | true=>
  rw [hall,qb rfl] at uI uS;rw [qB] at uI uS;have hUl:(((ps.drop 1).map (gtC steps)).map hdL).length<=1000:=by simp;omega
  have hUx: ∀x∈((ps.drop 1).map (gtC steps)).map hdL,litOK s.1 x=true:=by
   intro x hx;obtain ⟨c,hc,rfl⟩:=qP.1 hx;have e:=zq9 (List.all_eq_true.1 hall c hc);exact (zq.1 (hmem c hc)).2 _ (by rw [e];exact qM.2 rfl)
  obtain ⟨C,z1,z2,hC,eC,r1,r2⟩:=zxG s _ hg hUl hUx (gtC steps ps[0]) k0
  have j0:idx (ps.map (gtC steps)) 0=some (gtC steps ps[0]):=by
   have:=zd (xs:=ps.map (gtC steps)) (i:=0) (by simpa using hp0);rw [List.getElem_map] at this;exact this
  refine ⟨true,C,C,zO _ _ _ _ _ _ ?_,zaw _ _ _ _ _ _ ?_,fun _=>⟨rfl,hC,fun w' hw _ hP=>?_⟩⟩
  rotate_left 2
  ·have c2:=(zq.1 k0).2;have nok:=zFK s _ hg hUl hUx c2;rw [eC];refine zt7 hg hw (zJY hg hw (fun x hx=>⟨hUx x hx,?_⟩) c2 (hP _ (qi hp0)) (nfT s _) fun t ht=>?_) nok
   ·obtain ⟨c,hc,rfl⟩:=qP.1 hx;have hu:=List.all_eq_true.1 hall c hc;have e:=zq9 hu;refine ⟨by rw [e] at hu;exact hu,?_⟩;rw [<-e];obtain ⟨k,hk,rfl⟩:=qP.1 hc;exact hP k (List.mem_of_mem_drop hk)
   ·obtain ⟨x,hx,e⟩:=zdb.1 ht;obtain ⟨h1,h2⟩:=zW.1 (c2 x hx);rcases e with rfl | rfl
    ·exact (p_nf s _ hg hUl hUx _ h1).2.1
    ·exact (p_nf s _ hg hUl hUx _ h2).2.1
  ·simp only [zE,d1,d2,d3,d4,d5,n1,n2,b1,za,uI,m0,r1,qa,qd,qf,qg,qe];rfl
  ·simp only [zah,za,L,hl,hin,b2,d1,d2,d3,d4,d5,qa,qd,qf,qg,qe,Bool.and_self];rw [qb g1,hDrop',uS];simp only [qa,qd,hl];rw [j0];simp only [qa,r2];rfl
include hi hic
theorem zFX (rule:Int):okMade s inputs steps ps way rule:=by
 by_cases h1:rule=1
 ·subst h1;exact zHO s hg inputs hi hic steps hs ps way hp hps
 by_cases h2:rule=2
 ·subst h2;exact zHr s hg inputs steps hs hsc ps way hp hps
 by_cases h3:rule=3
 ·subst h3;exact zE6 s hg inputs steps hs hsc ps way hp hps
 by_cases h4:rule=4
 ·subst h4;exact zF5 s hg inputs steps hs hsc ps way hp hps
 by_cases h5:rule=5
 ·subst h5;exact zGM s hg inputs steps hs hsc ps way hp hw hps
 have L:=zq8 s inputs steps hs ps way hp hps rule ps.length 0 [] (by omega) (by simp);rw [show ((0:Nat):Int)=0 from rfl,qk,qB] at L;have d1:(rule==1)=false:=by simpa using h1
 have d2:(rule==2)=false:=by simpa using h2
 have d3:(rule==3)=false:=by simpa using h3
 have d4:(rule==4)=false:=by simpa using h4
 have d5:(rule==5)=false:=by simpa using h5
 refine ⟨false,[],[],zO _ _ _ _ _ _ ?_,zaw _ _ _ _ _ _ ?_,fun h=>by cases h⟩
 ·simp only [zE,d1,d2,d3,d4,d5,qg,qe];rfl
 ·simp only [zah,za,L,d1,d2,d3,d4,d5,qa,qd,qf,qg,qe];rfl
end
section
variable (s : TSign) (hg : gS s.1 = true) (inputs : List (List TLit)) (hi : inputs.length <= 1048576) (hic : ∀ c ∈ inputs, clOK s.1 c = true) (steps : List TStep) (hs : steps.length <= 1048576) (hsc : ∀ x ∈ steps, clOK s.1 x.2.2.2.1 = true) (ps way : List Int) (hp : ps.length <= 1048576) (hw : way.length <= 1048576) (hps : ∀ k ∈ ps, 0 <= k ∧ k < (steps.length : Int))
include hps hs hp in
theorem zpd (rule:Int): ∀(k i:Nat) (o:List (List TLit)),i+k=ps.length->o.length<=i->zf6 M inputs steps rule way s o ps ps.length i=some (.inl (inputs,steps,rule,way,s,o++(ps.drop i).map (gtC steps),())):=by
 intro k
 induction k with
 | zero=>
  intro i o hi ho;obtain rfl:i=ps.length:=by omega
  apply zpI;simp only [zhU,za];rw [qc (by simp),qG]
  simp
 | succ k ih=>
  intro i o hi ho;have h:i<ps.length:=by omega
  obtain ⟨h0,h1⟩:=hps _ (qi h);obtain ⟨n,e,hn⟩:=zkL h0 h1
  have hin:zV M (n:Int) 0 (IntKind.i64.wrap ((steps.length:Int)-1))=some ((true,()),()):=by
   rw [w64 (by omega) (by omega),zfq,qp (by omega),qp (by omega)];rfl
  apply zpI;simp only [zhU,za];rw [qb (by simpa using h),zd h];simp only [qa,e,hin,qn,qg,qe];rw [qb (show (0:Int)<=(n:Int)∧(n:Int)<(steps.length:Int) by omega),qo,qv hn];simp only [qa];rw [qb (by simp;omega),zb (by omega),ih (i+1) _ (by omega) (by simp;omega),qj h,qJ,e,ztK hn,qE];rfl
def okMadeW (rule:Int):Prop:= ∃(ok:Bool) (C2:List TLit),zlI M s inputs steps rule ps way=some ((C2,ok,()),(steps,()))∧(ok=true->clOK s.1 C2=true)
include hg hi hic hs hps hp
theorem zGg:okMadeW s inputs steps ps way 1:=by
 have _:=hg
 have L:=zpd s inputs steps hs ps way hp hps 1 ps.length 0 [] (by omega) (by simp);rw [show ((0:Nat):Int)=0 from rfl,qk,qB] at L;have hl:(((ps.map (gtC steps)).length:Nat):Int)=(ps.length:Int):=by simp
 cases hA:((ps.length:Int)==0) with
 | false=>
  refine ⟨false,[],zN _ _ _ _ _ _ ?_,fun h=>by cases h⟩
  ·simp only [zC,za,L,hl,hA,qa,qd];rfl
 | true=>
 cases hB:((way.length:Int)==1) with
 | false=>
  refine ⟨false,[],zN _ _ _ _ _ _ ?_,fun h=>by cases h⟩
  ·simp only [zC,za,L,hl,hA,hB,qa,qd];rfl
 | true=>
 have hw1:0<way.length:=by
  have:(way.length:Int)=1:=by simpa using hB
  omega
 obtain ⟨w,hx⟩: ∃w:Int,idx way 0=some w:=⟨_,zd hw1⟩;have hin:zV M w 0 (IntKind.i64.wrap ((inputs.length:Int)-1))=some ((decide ((0:Int)<=w)&&decide (w<=(inputs.length:Int)-1),()),()):=by rw [w64 (by omega) (by omega),zfq]
 by_cases h0:0<=w
 ·by_cases h1:w<(inputs.length:Int)
  ·obtain ⟨n,e,hn⟩:=zkL h0 h1;rw [qp h0,qp (by omega)] at hin;have hc:=hic _ (qi hn);obtain ⟨c1,c2⟩:=zq.1 hc;obtain ⟨o1,o2⟩:=zjZ inputs[n] (by omega) (fun x hx=>by have:=zci (c2 x hx);omega);refine ⟨true,_,zN _ _ _ _ _ _ ?_,fun _=>zts c1 c2⟩
   ·simp only [zC,za,L,hl,hA,hB,hx,hin,qa,qd,wb,qf,Bool.and_self];simp only [e,zd hn,o2,qa];rfl
  ·rw [qp h0,qr (by omega)] at hin;refine ⟨false,[],zN _ _ _ _ _ _ ?_,fun h=>by cases h⟩
   ·simp only [zC,za,L,hl,hA,hB,hx,hin,qa,qd];rfl
 ·rw [qr h0] at hin;refine ⟨false,[],zN _ _ _ _ _ _ ?_,fun h=>by cases h⟩
  ·simp only [zC,za,L,hl,hA,hB,hx,hin,qa,qd];rfl
include hsc
omit hi hic
theorem zGN:okMadeW s inputs steps ps way 2:=by
 have L:=zpd s inputs steps hs ps way hp hps 2 ps.length 0 [] (by omega) (by simp);rw [show ((0:Nat):Int)=0 from rfl,qk,qB] at L;have hl:(((ps.map (gtC steps)).length:Nat):Int)=(ps.length:Int):=by simp
 have d1:((2:Int)==1)=false:=rfl;have d2:((2:Int)==2)=true:=rfl;have d3:((2:Int)==3)=false:=rfl;have d4:((2:Int)==4)=false:=rfl;have d5:((2:Int)==5)=false:=rfl
 cases hA:((ps.length:Int)==2) with
 | false=>
  refine ⟨false,[],zN _ _ _ _ _ _ ?_,fun h=>by cases h⟩
  ·simp only [zC,za,L,hl,hA,d1,d2,d3,d4,d5,qa,qd,qf,qg,qe];rfl
 | true=>
 cases hB:((way.length:Int)==5) with
 | false=>
  refine ⟨false,[],zN _ _ _ _ _ _ ?_,fun h=>by cases h⟩
  ·simp only [zC,za,L,hl,hA,hB,d1,d2,d3,d4,d5,qa,qd,qf,qg,qe];rfl
 | true=>
 obtain ⟨a,b,rfl⟩: ∃a b,ps= [a,b]:=by
  have:ps.length=2:=by have:(ps.length:Int)=2:=(by simpa using hA);omega
  match ps,this with
  | [a,b],_=>exact ⟨a,b,rfl⟩
 obtain ⟨w0,w1,w2,w3,w4,rfl⟩: ∃w0 w1 w2 w3 w4,way= [w0,w1,w2,w3,w4]:=by
  have:way.length=5:=by have:(way.length:Int)=5:=(by simpa using hB);omega
  match way,this with
  | [w0,w1,w2,w3,w4],_=>exact ⟨w0,w1,w2,w3,w4,rfl⟩
 have m0:zF M 0 steps [a,b]=some ((gtC steps a,()),()):=zkW steps [a,b] hps 0 (by simp);have k0:clOK s.1 (gtC steps a)=true:=zkY s steps hsc [a,b] hps 0 (by simp);have m1:zF M 1 steps [a,b]=some ((gtC steps b,()),()):=zkW steps [a,b] hps 1 (by simp);have k1:clOK s.1 (gtC steps b)=true:=zkY s steps hsc [a,b] hps 1 (by simp);have i0:idx [w0,w1,w2,w3,w4] 0=some w0:=rfl;have i1:idx [w0,w1,w2,w3,w4] 1=some w1:=rfl;have i2:idx [w0,w1,w2,w3,w4] 2=some w2:=rfl;have i3:idx [w0,w1,w2,w3,w4] 3=some w3:=rfl;have i4:idx [w0,w1,w2,w3,w4] 4=some w4:=rfl;rw [show List.map (gtC steps) [a,b]= [gtC steps a,gtC steps b] from rfl] at L hl;obtain ⟨r,r1,r2,r3⟩:=zzb s hg (gtC steps a) (gtC steps b) k0 k1 w0 w1 w2 w3 w4;have g0:0<=(0:Int)∧(0:Int)<(([a,b].length:Nat):Int):=⟨by simp,by simp⟩;have j0: [gtC steps a,gtC steps b][(0:Int).toNat]?=some (gtC steps a):=rfl;have g1:0<=(1:Int)∧(1:Int)<(([a,b].length:Nat):Int):=⟨by simp,by simp⟩;have j1: [gtC steps a,gtC steps b][(1:Int).toNat]?=some (gtC steps b):=rfl;refine ⟨((r.1.2.1==0) || (r.1.2.1==5)),r.1.1,zN _ _ _ _ _ _ ?_,fun h=>r3.1⟩
 ·simp only [zC,za,L,hl,hA,hB,d1,d2,d3,d4,d5,qa,qd,qf,qg,qe];rw [qb g0];simp only [j0,qa];rw [qb g1];simp only [j1,qa];simp only [i0,i1,i2,i3,i4,r2,qa,qd];cases (r.1.2.1==0)<;>rfl
theorem zDy:okMadeW s inputs steps ps way 3:=by
 have L:=zpd s inputs steps hs ps way hp hps 3 ps.length 0 [] (by omega) (by simp);rw [show ((0:Nat):Int)=0 from rfl,qk,qB] at L;have hl:(((ps.map (gtC steps)).length:Nat):Int)=(ps.length:Int):=by simp
 have d1:((3:Int)==1)=false:=rfl;have d2:((3:Int)==2)=false:=rfl;have d3:((3:Int)==3)=true:=rfl;have d4:((3:Int)==4)=false:=rfl;have d5:((3:Int)==5)=false:=rfl
 cases hA:((ps.length:Int)==1) with
 | false=>
  refine ⟨false,[],zN _ _ _ _ _ _ ?_,fun h=>by cases h⟩
  ·simp only [zC,za,L,hl,hA,d1,d2,d3,d4,d5,qa,qd,qf,qg,qe];rfl
 | true=>
 cases hB:((way.length:Int)==1) with
 | false=>
  refine ⟨false,[],zN _ _ _ _ _ _ ?_,fun h=>by cases h⟩
  ·simp only [zC,za,L,hl,hA,hB,d1,d2,d3,d4,d5,qa,qd,qf,qg,qe];rfl
 | true=>
 obtain ⟨a,rfl⟩: ∃a,ps= [a]:=by
  have:ps.length=1:=by have:(ps.length:Int)=1:=(by simpa using hA);omega
  match ps,this with
  | [a],_=>exact ⟨a,rfl⟩
 obtain ⟨w0,rfl⟩: ∃w0,way= [w0]:=by
  have:way.length=1:=by have:(way.length:Int)=1:=(by simpa using hB);omega
  match way,this with
  | [w0],_=>exact ⟨w0,rfl⟩
 have m0:zF M 0 steps [a]=some ((gtC steps a,()),()):=zkW steps [a] hps 0 (by simp);have k0:clOK s.1 (gtC steps a)=true:=zkY s steps hsc [a] hps 0 (by simp);have i0:idx [w0] 0=some w0:=rfl;rw [show List.map (gtC steps) [a]= [gtC steps a] from rfl] at L hl;obtain ⟨r,r1,r2,r3⟩:=zxH s hg (gtC steps a) k0 w0;have g0:0<=(0:Int)∧(0:Int)<(([a].length:Nat):Int):=⟨by simp,by simp⟩;have j0: [gtC steps a][(0:Int).toNat]?=some (gtC steps a):=rfl;refine ⟨((r.1.2.1==0) || (r.1.2.1==5)),r.1.1,zN _ _ _ _ _ _ ?_,fun h=>r3.1⟩
 ·simp only [zC,za,L,hl,hA,hB,d1,d2,d3,d4,d5,qa,qd,qf,qg,qe];rw [qb g0];simp only [j0,qa];simp only [i0,r2,qa,qd];cases (r.1.2.1==0)<;>rfl
theorem zEz:okMadeW s inputs steps ps way 4:=by
 have L:=zpd s inputs steps hs ps way hp hps 4 ps.length 0 [] (by omega) (by simp);rw [show ((0:Nat):Int)=0 from rfl,qk,qB] at L;have hl:(((ps.map (gtC steps)).length:Nat):Int)=(ps.length:Int):=by simp
 have d1:((4:Int)==1)=false:=rfl;have d2:((4:Int)==2)=false:=rfl;have d3:((4:Int)==3)=false:=rfl;have d4:((4:Int)==4)=true:=rfl;have d5:((4:Int)==5)=false:=rfl
 cases hA:((ps.length:Int)==1) with
 | false=>
  refine ⟨false,[],zN _ _ _ _ _ _ ?_,fun h=>by cases h⟩
  ·simp only [zC,za,L,hl,hA,d1,d2,d3,d4,d5,qa,qd,qf,qg,qe];rfl
 | true=>
 cases hB:((way.length:Int)==4) with
 | false=>
  refine ⟨false,[],zN _ _ _ _ _ _ ?_,fun h=>by cases h⟩
  ·simp only [zC,za,L,hl,hA,hB,d1,d2,d3,d4,d5,qa,qd,qf,qg,qe];rfl
 | true=>
 obtain ⟨a,rfl⟩: ∃a,ps= [a]:=by
  have:ps.length=1:=by have:(ps.length:Int)=1:=(by simpa using hA);omega
  match ps,this with
  | [a],_=>exact ⟨a,rfl⟩
 obtain ⟨w0,w1,w2,w3,rfl⟩: ∃w0 w1 w2 w3,way= [w0,w1,w2,w3]:=by
  have:way.length=4:=by have:(way.length:Int)=4:=(by simpa using hB);omega
  match way,this with
  | [w0,w1,w2,w3],_=>exact ⟨w0,w1,w2,w3,rfl⟩
 have m0:zF M 0 steps [a]=some ((gtC steps a,()),()):=zkW steps [a] hps 0 (by simp);have k0:clOK s.1 (gtC steps a)=true:=zkY s steps hsc [a] hps 0 (by simp);have i0:idx [w0,w1,w2,w3] 0=some w0:=rfl;have i1:idx [w0,w1,w2,w3] 1=some w1:=rfl;have i2:idx [w0,w1,w2,w3] 2=some w2:=rfl;have i3:idx [w0,w1,w2,w3] 3=some w3:=rfl;rw [show List.map (gtC steps) [a]= [gtC steps a] from rfl] at L hl;obtain ⟨r,r1,r2,r3⟩:=zyP s hg (gtC steps a) k0 w0 w1 w2 w3 0;have g0:0<=(0:Int)∧(0:Int)<(([a].length:Nat):Int):=⟨by simp,by simp⟩;have j0: [gtC steps a][(0:Int).toNat]?=some (gtC steps a):=rfl;refine ⟨((r.1.2.1==0) || (r.1.2.1==5)),r.1.1,zN _ _ _ _ _ _ ?_,fun h=>r3.1⟩
 ·simp only [zC,za,L,hl,hA,hB,d1,d2,d3,d4,d5,qa,qd,qf,qg,qe];rw [qb g0];simp only [j0,qa];simp only [i0,i1,i2,i3,r2,qa,qd];cases (r.1.2.1==0)<;>rfl
omit hg hs hps hp hsc in
theorem zKs (P D:List (List TLit)) (hD:D.length<=1048576) (hDc: ∀c∈D,c.length<=1048576): ∀(m i:Nat) (units:List TLit),i+m=D.length->units.length<=i->zdu M steps s P units D D.length i=some (if (D.drop i).all isU=true then .inl (steps,s,P,units++(D.drop i).map hdL,()) else .inr (failC.1,(steps,()))):=by
 intro m
 induction m with
 | zero=>
  intro i units hk hu;obtain rfl:i=D.length:=by omega
  apply zmz;simp only [ze6,za];rw [qc (by simp),qG]
  simp
 | succ m ih=>
  intro i units hk hu;have h:i<D.length:=by omega
  have hU:=(zwc D[i] (hDc _ (qi h))).2;apply zmz;simp only [ze6,za];rw [qb (by simpa using h),zd h];simp only [hU,qa];rw [qj h,qJ,qT]
  cases hq:isU D[i] with
  | false=>rfl
  | true=>
   have e:=zq9 hq
   have hx:idx D[i] 0=some (hdL D[i]):=by
    rw [e];rfl
   simp only [qn,qg,qe,hx,qa,Bool.true_and,zg];rw [qb (by simp;omega),zb (by omega),ih (i+1) _ (by omega) (by simp;omega),qE];rfl
include hw
theorem zFn:okMadeW s inputs steps ps way 5:=by
 have L:=zpd s inputs steps hs ps way hp hps 5 ps.length 0 [] (by omega) (by simp);rw [show ((0:Nat):Int)=0 from rfl,qk,qB] at L;have hl:(((ps.map (gtC steps)).length:Nat):Int)=(ps.length:Int):=by simp
 have d1:((5:Int)==1)=false:=rfl;have d2:((5:Int)==2)=false:=rfl;have d3:((5:Int)==3)=false:=rfl;have d4:((5:Int)==4)=false:=rfl;have d5:((5:Int)==5)=true:=rfl;have hin:=zfq (ps.length:Int) 1 11;by_cases hA:1<=ps.length∧ps.length<=11
 case neg=>
  have e:(decide ((1:Int)<=(ps.length:Int))&&decide ((ps.length:Int)<=11))=false:=by
   rw [Bool.and_eq_false_iff];simp only [decide_eq_false_iff_not];omega
  rw [e] at hin;refine ⟨false,[],zN _ _ _ _ _ _ ?_,fun h=>by cases h⟩
  ·simp only [zC,za,L,hl,hin,d1,d2,d3,d4,d5,qa,qd,qf,qg,qe];rfl
 case pos=>
 rw [qp (by omega),qp (by omega)] at hin;have n1:decide ((ps.length:Int)<1)=false:=by simp;omega
 have n2:decide ((ps.length:Int)>11)=false:=by simp;omega
 by_cases hB:way.length=0
 case neg=>
  have b1:decide ((way.length:Int)>0)=true:=qp (by omega);have b2:((way.length:Int)==0)=false:=beq_eq_false_iff_ne.2 (by omega);refine ⟨false,[],zN _ _ _ _ _ _ ?_,fun h=>by cases h⟩
  ·simp only [zC,za,L,hl,hin,b2,d1,d2,d3,d4,d5,qa,qd,qf,qg,qe];rfl
 case pos=>
 have b1:decide ((way.length:Int)>0)=false:=qr (by omega);have b2:((way.length:Int)==0)=true:=beq_iff_eq.2 (by omega);have hp0:0<ps.length:=by omega
 have m0:=zkW steps ps hps 0 hp0;have k0:=zkY s steps hsc ps hps 0 hp0;rw [show ((0:Nat):Int)=0 from rfl] at m0
 have hDrop:((ps.map (gtC steps)).take (Int.toNat ((ps.map (gtC steps)).length:Int))).drop (Int.toNat (1:Int))=(ps.drop 1).map (gtC steps):=by
  rw [qo,List.take_length,show (1:Int).toNat=1 from rfl,List.map_drop]
 have hDrop':((ps.map (gtC steps)).take (Int.toNat (ps.length:Int))).drop (Int.toNat (1:Int))=(ps.drop 1).map (gtC steps):=by rw [<-hl];exact hDrop
 have hmem: ∀c∈(ps.drop 1).map (gtC steps),clOK s.1 c=true:=by
  intro c hc;obtain ⟨k,hk,rfl⟩:=qP.1 hc;obtain ⟨i,hi,rfl⟩:=List.getElem_of_mem (List.mem_of_mem_drop hk);exact zkY s steps hsc ps hps i hi
 have uS:=zKs s steps (ps.map (gtC steps)) ((ps.drop 1).map (gtC steps)) (by simp;omega) (fun c hc=>by have:=(zq.1 (hmem c hc)).1;omega) ((ps.drop 1).map (gtC steps)).length 0 [] (by omega) (by simp);rw [show ((0:Nat):Int)=0 from rfl,qk] at uS;have g1:0<=(1:Int)∧(1:Int)<=(ps.length:Int)∧(ps.length:Int)<=(ps.length:Int):=by omega
 cases hall:((ps.drop 1).map (gtC steps)).all isU with
 | false=>
  rw [hall,qc (by simp)] at uS;refine ⟨false,[],zN _ _ _ _ _ _ ?_,fun h=>by cases h⟩
  ·simp only [zC,za,L,hl,hin,b2,d1,d2,d3,d4,d5,qa,qd,qf,qg,qe,Bool.and_self];rw [qb g1,hDrop',uS]
   rfl
 | true=>
  rw [hall,qb rfl] at uS;rw [qB] at uS;have hUl:(((ps.drop 1).map (gtC steps)).map hdL).length<=1000:=by simp;omega
  have hUx: ∀x∈((ps.drop 1).map (gtC steps)).map hdL,litOK s.1 x=true:=by
   intro x hx;obtain ⟨c,hc,rfl⟩:=qP.1 hx;have e:=zq9 (List.all_eq_true.1 hall c hc);exact (zq.1 (hmem c hc)).2 _ (by rw [e];exact qM.2 rfl)
  obtain ⟨C,z1,z2,hC,eC,r1,r2⟩:=zxG s _ hg hUl hUx (gtC steps ps[0]) k0
  have j0:idx (ps.map (gtC steps)) 0=some (gtC steps ps[0]):=by
   have:=zd (xs:=ps.map (gtC steps)) (i:=0) (by simpa using hp0);rw [List.getElem_map] at this;exact this
  refine ⟨true,C,zN _ _ _ _ _ _ ?_,fun _=>hC⟩
  ·simp only [zC,za,L,hl,hin,b2,d1,d2,d3,d4,d5,qa,qd,qf,qg,qe,Bool.and_self];rw [qb g1,hDrop',uS];simp only [qa,qd,hl];rw [j0];simp only [qa,r2];rfl
include hi hic
theorem zJm (rule:Int):okMadeW s inputs steps ps way rule:=by
 by_cases h1:rule=1
 ·subst h1;exact zGg s hg inputs hi hic steps hs ps way hp hps
 by_cases h2:rule=2
 ·subst h2;exact zGN s hg inputs steps hs hsc ps way hp hps
 by_cases h3:rule=3
 ·subst h3;exact zDy s hg inputs steps hs hsc ps way hp hps
 by_cases h4:rule=4
 ·subst h4;exact zEz s hg inputs steps hs hsc ps way hp hps
 by_cases h5:rule=5
 ·subst h5;exact zFn s hg inputs steps hs hsc ps way hp hw hps
 have L:=zpd s inputs steps hs ps way hp hps rule ps.length 0 [] (by omega) (by simp);rw [show ((0:Nat):Int)=0 from rfl,qk,qB] at L;have d1:(rule==1)=false:=by simpa using h1
 have d2:(rule==2)=false:=by simpa using h2
 have d3:(rule==3)=false:=by simpa using h3
 have d4:(rule==4)=false:=by simpa using h4
 have d5:(rule==5)=false:=by simpa using h5
 refine ⟨false,[],zN _ _ _ _ _ _ ?_,fun h=>by cases h⟩
 ·simp only [zC,za,L,d1,d2,d3,d4,d5,qa,qd,qf,qg,qe];rfl
end
theorem zCf (b:List (List Int)) (hl:b.length<=1000) (hx: ∀t∈b,t.length<=1048576): ∀(k i:Nat) (o:List (List Int)),i+k=b.length->o.length<=i->ziB M o b b.length i=some (.inl (o++b.drop i,())):=by
 intro k
 induction k with
 | zero=>
  intro i o hi ho;obtain rfl:i=b.length:=by omega
  apply zs2;simp only [zkt]
  rw [qc (by simp),qG,qO]
 | succ k ih=>
  intro i o hi ho;have h1:i<b.length:=by omega
  apply zs2;simp only [zkt];rw [qb (by simpa using h1),zd h1];simp only [qa,ziu b[i] (hx _ (qi h1))];rw [qb (by simp;omega),zb (by omega),ih (i+1) _ (by omega) (by simp;omega),qj h1,qE];rfl
theorem zHo (σ:Int->List Int) (hσ: ∀v,(σ v).length<=40):zlR M (tabS σ)=some ((tabS σ,()),()):=by
 apply zBo
 have:=zCf (tabS σ) (by rw [zd4];omega) (fun t ht=>by
  obtain ⟨k,_,rfl⟩:=zxY ht;have:=hσ (k:Int);omega) (tabS σ).length 0 [] (by omega) (by simp)
 rw [show ((0:Nat):Int)=0 from rfl] at this;simp only [zss,this,qa,qd,qB,qk]
theorem zDr (v:Nat) (hv:v<=1000) (t:List Int): ∃t',zos M v t=some ((t',()),())∧t'.length<=t.length:=by
 by_cases h:(((t.length:Nat):Int)==1)=true
 ·have hl:t.length=1:=by have:((t.length:Nat):Int)=1:=(by simpa using h);omega
  match t,hl with
  | [x],_=>
   have i0:idx [x] 0=some x:=rfl;by_cases h2:(x==IntKind.i64.wrap ((-1:Int)-(v:Int)))=true
   ·refine ⟨[],zsC _ _ ?_,by simp⟩;simp only [zlN,i0,qa];rw [qb h,qb h2]
   ·refine ⟨[x],zsC _ _ ?_,by simp⟩;simp only [zlN,i0,qa];rw [qb h,qc h2]
 ·refine ⟨t,zsC _ _ ?_,ql _⟩;simp only [zlN];rw [qc h]
theorem zDP: ∀(k i:Nat) (b:List (List Int)),i+k=b.length->b.length<=1000-> ∃b',ziw M b b.length i=some (.inl (b',())):=by
 intro k
 induction k with
 | zero=>
  intro i b hi hb;obtain rfl:i=b.length:=by omega
  refine ⟨b,zsP _ _ _ ?_⟩;simp only [zkp]
  rw [qc (by simp)]
 | succ k ih=>
  intro i b hi hb;have h1:i<b.length:=by omega
  obtain ⟨t',e,_⟩:=zDr i (by omega) b[i];obtain ⟨b',e2⟩:=ih (i+1) (b.set i t') (by rw [List.length_set];omega) (by rw [List.length_set];exact hb);rw [List.length_set] at e2;refine ⟨b',zsP _ _ _ ?_⟩;simp only [zkp];rw [qb (by simpa using h1),qb (by omega),qo,qv h1];simp only [qa,e];rw [qb (by omega),zb (by omega)];exact e2
theorem zHc (s:TSign) (hs:s.1.length<=1048576) (t:List Int) (ht:t.length<=1048576): ∀(k i:Nat) (need:Int),i+k=t.length-> ∃r,zgV M t i s need=some r:=by
 intro k
 induction k with
 | zero=>
  intro i need hi;obtain rfl:i=t.length:=by omega
  by_cases h:need>0
  ·refine ⟨.inr ((-1,()),()),zdt _ _ _ _ ?_⟩;simp only [zb2];rw [qb (by simpa using h),qb (by simp)]
  ·refine ⟨.inl ((t.length:Int),()),zdt _ _ _ _ ?_⟩;simp only [zb2]
   rw [qc (by simpa using h)]
 | succ k ih=>
  intro i need hi;have h1:i<t.length:=by omega
  by_cases h:need>0
  ·have hin:zV M t[i] (-12) (IntKind.i64.wrap ((s.1.length:Int)-1))=some ((decide (-12<=t[i])&&decide (t[i]<=(s.1.length:Int)-1),()),()):=by rw [w64 (by omega) (by omega),zfq]
   cases hb:(decide (-12<=t[i])&&decide (t[i]<=(s.1.length:Int)-1)) with
   | false=>
    rw [hb] at hin;refine ⟨.inr ((-1,()),()),zdt _ _ _ _ ?_⟩;simp only [zb2];rw [qb (by simpa using h),qc (by simp;omega),zd h1];simp only [qa,hin]
    rfl
   | true=>
    rw [hb] at hin;simp only [qq,qC] at hb;by_cases h0:0<=t[i]
    ·obtain ⟨n,hn⟩: ∃n:Nat,t[i]=(n:Int):=⟨t[i].toNat,by omega⟩;have hs2:idx s.1 t[i]=some (s.1[n]'(by omega)):=by rw [hn];exact zd (by omega)
     obtain ⟨r,hr⟩:=ih (i+1) (IntKind.i64.wrap (IntKind.i64.wrap (need-1)+s.1[n]'(by omega))) (by omega);refine ⟨r,zdt _ _ _ _ ?_⟩;simp only [zb2];rw [qb (by simpa using h),qc (by simp;omega),zd h1];simp only [qa,hin,qn,qg,qe];rw [qb (by simpa using h0),hs2];simp only [qa,qd,za];rw [zb (by omega)];exact hr
    ·obtain ⟨r,hr⟩:=ih (i+1) (IntKind.i64.wrap (need-1)) (by omega);refine ⟨r,zdt _ _ _ _ ?_⟩;simp only [zb2];rw [qb (by simpa using h),qc (by simp;omega),zd h1];simp only [qa,hin,qn,qg,qe];rw [qc (by simpa using h0)];simp only [qa,qd,za];rw [zb (by omega)];exact hr
  ·refine ⟨.inl ((i:Int),()),zdt _ _ _ _ ?_⟩;simp only [zb2];rw [qc (by simpa using h)]
theorem zBm (s:TSign) (hs:s.1.length<=1048576) (t:List Int) (ht:t.length<=1048576): ∃b:Bool,zen M s t=some ((b,()),()):=by
 have hin:=zfq (t.length:Int) 1 40
 cases hb:(decide ((1:Int)<=(t.length:Int))&&decide ((t.length:Int)<=40)) with
 | false=>
  rw [hb] at hin;refine ⟨false,zsh _ _ ?_⟩;simp only [zlU,hin,qa]
  rfl
 | true=>
  rw [hb] at hin;obtain ⟨r,hr⟩:=zHc s hs t ht t.length 0 1 (by omega);rw [show ((0:Nat):Int)=0 from rfl] at hr
  have he: ∃z:Int,ziE M s t 0=some ((z,()),()):=by
   cases r with
   | inl y=>
    refine ⟨y.1,zt2 _ _ _ ?_⟩
    simp only [zm3,za,hr,qa,qd]
   | inr y=>
    refine ⟨y.1.1,zt2 _ _ _ ?_⟩;simp only [zm3,za,hr,qa,qF]
  obtain ⟨z,hz⟩:=he;refine ⟨z==(t.length:Int),zsh _ _ ?_⟩;simp only [zlU,hin,za,hz,qa,qf]
theorem zH8 (s:TSign) (hs:s.1.length<=1048576) (x:TLit) (hx:smL x): ∃b:Bool,zm0 M s x=some ((b,()),()):=by
 obtain ⟨a,ha⟩:=zBm s hs x.2.1 hx.1;obtain ⟨b,hb⟩:=zBm s hs x.2.2.1 hx.2;refine ⟨a&&b,zxd _ _ ?_⟩;simp only [zpY,za,ha,hb,qa];cases a<;>rfl
theorem zDQ (s:TSign) (hs:s.1.length<=1048576) (c:List TLit) (hl:c.length<=1048576) (hc: ∀x∈c,smL x): ∃b:Bool,zbA M s c=some ((b,()),()):=by
 have h: ∀k i:Nat,i+k=c.length->zco M c s c c.length i=some (.inl (c,()))∨zco M c s c c.length i=some (.inr ((false,()),())):=by
  intro k
  induction k with
  | zero=>
   intro i hi;obtain rfl:i=c.length:=by omega
   refine .inl (zd3 _ _ _ _ _ ?_);simp only [zcV]
   rw [qc (by simp)]
  | succ k ih=>
   intro i hi;have h1:i<c.length:=by omega
   obtain ⟨b,hb⟩:=zH8 s hs c[i] (hc _ (qi h1))
   have hq:zcV M c s c c.length i=if b=true then zco M c s c c.length ((i+1:Nat):Int) else some (.inr ((false,()),())):=by
    simp only [zcV];rw [qb (by simpa using h1),zd h1,zb (by omega)];simp only [qa,zg,za,hb];cases b<;>rfl
   cases b with
   | false=>exact .inr (zd3 _ _ _ _ _ hq)
   | true=>
    rcases ih (i+1) (by omega) with h | h
    ·exact .inl (zd3 _ _ _ _ _ (hq.trans h))
    ·exact .inr (zd3 _ _ _ _ _ (hq.trans h))
 have h0:=h c.length 0 (by omega);rw [show ((0:Nat):Int)=0 from rfl] at h0;rcases h0 with h0 | h0
 ·refine ⟨decide ((c.length:Int)<=8),zql _ _ ?_⟩;simp only [zjO,za,h0,qa,qd]
 ·refine ⟨false,zql _ _ ?_⟩;simp only [zjO,za,h0,qa,qF]
theorem zDf {a:List Int} {c:List TLit} (h:clOK a c=true):c.length<=8∧ ∀x∈c,smL x:=by
 obtain ⟨c1,c2⟩:=zq.1 h;exact ⟨c1,fun x hx=>by have:=zci (c2 x hx);exact ⟨by omega,by omega⟩⟩
section
variable (s : TSign) (hg : gS s.1 = true)
include hg
section
variable (c d : List TLit) (hc : clOK s.1 c = true) (hd : clOK s.1 d = true)
include hc hd
theorem zJR (k:Nat) (hk:k<c.length) (σ:Int->List Int) (hσ:okB s.1 σ) (ih: ∀σ,okB s.1 σ-> ∃(b:Bool) (o:List (List Int)),zcM M s c d ((k+1:Nat):Int) (tabS σ)=some ((o,b,()),())∧o.length<=12) (i:Nat) (hi:i<d.length): ∀m n:Nat,n+m=2->
  zaB M c d k (tabS σ) s d[i] n d d.length i=some (.inl (c,d,(k:Int),tabS σ,s,d,(d.length:Int),(i:Int),()))∨ ∃o:List (List Int),o.length<=12∧zaB M c d k (tabS σ) s d[i] n d d.length i=some (.inr ((o,true,()),())):=by
 have c1:=(zq.1 hc).1;have hxk:=zW.1 ((zq.1 hc).2 _ (qi hk));have hyi:=(zq.1 hd).2 _ (qi hi);intro m
 induction m with
 | zero=>
  intro n hn;obtain rfl:n=2:=by omega
  refine .inl (zfA _ _ _ _ _ _ _ _ _ _ ?_);simp only [zcg,za,zg]
  rw [qc (by simp)]
 | succ m im=>
  intro n hn;have hlt:decide ((n:Int)<2)=true:=by simp;omega
  by_cases hp:(d[i].1==c[k].1)=true
  case neg=>
   refine .inl (zfA _ _ _ _ _ _ _ _ _ _ ?_);simp only [zcg,za,zg,hlt,qf,zd hk,qa];rw [qc hp]
  have hs:=(zjl d[i] n).2;have hcp:=zHo σ (fun v=>hσ.len v)
  have t1:isT s.1 (sd d[i] n).1=true∧isT s.1 (sd d[i] n).2=true:=by
   have:=zW.1 hyi;unfold sd;split
   ·exact this
   ·exact ⟨this.2,this.1⟩
  have go:(((za0 M d[i] n).bind fun r3=>((zlR M (tabS σ)).bind fun r4=>((idx c k).bind fun x5=>((zce M s r4.1.1 x5.2.1 r3.1.1).bind fun r6=>(if (!r6.1.2.1)=true then (some (.inl (c,d,(k:Int),tabS σ,s,d[i],(n:Int),d,(d.length:Int),(i:Int),()))) else ((idx c k).bind fun x7=>((zce M s r6.1.1 x7.2.2.1 r3.1.2.1).bind fun r8=>(if (!r8.1.2.1)=true then (some (.inl (c,d,(k:Int),tabS σ,s,d[i],(n:Int),d,(d.length:Int),(i:Int),()))) else ((zcM M s c d (IntKind.i64.wrap ((k:Int)+1)) r8.1.1).bind fun r9=>(if r9.1.2.1=true then ((some (.inr ((r9.1.1,true,()),()))).map .inr) else (some (.inl (c,d,(k:Int),tabS σ,s,d[i],(n:Int),d,(d.length:Int),(i:Int),()))))))))))))):Option ((List TLit×List TLit×Int×List (List Int)×TSign×TLit×Int×List TLit×Int×Int×Unit)⊕((List TLit×List TLit×Int×List (List Int)×TSign×List TLit×Int×Int×Unit)⊕((List (List Int)×Bool×Unit)×Unit))))=some (.inl (c,d,(k:Int),tabS σ,s,d[i],(n:Int),d,(d.length:Int),(i:Int),()))->
   (zaB M c d k (tabS σ) s d[i] n d d.length i=some (.inl (c,d,(k:Int),tabS σ,s,d,(d.length:Int),(i:Int),()))∨ ∃o:List (List Int),o.length<=12∧zaB M c d k (tabS σ) s d[i] n d d.length i=some (.inr ((o,true,()),()))):=by
   intro hb
   have key: ∀X,zaB M c d k (tabS σ) s d[i] ((n+1:Nat):Int) d d.length i=some X->zaB M c d k (tabS σ) s d[i] n d d.length i=some X:=by
    intro X hX;refine zfA _ _ _ _ _ _ _ _ _ _ ?_;simp only [zcg,za,zg,hlt,qf,zd hk,qa];rw [qb hp];simp only [zd hk,qa] at hb;rw [hb];simp only [qa,qd,za,zg];rw [zb (by omega)];exact hX
   rcases im (n+1) (by omega) with h | ⟨o,h1,h2⟩
   ·exact .inl (key _ h)
   ·exact .inr ⟨o,h1,key _ h2⟩
  rcases zzk s hg c[k].2.1 (sd d[i] n).1 (by have:=(ze.1 hxk.1).1;omega) (by have:=(ze.1 t1.1).1;omega) σ hσ (ze.1 hxk.1).2 (ze.1 t1.1).2 with ⟨_,m1⟩ | ⟨τ,hτ,_,_,m1⟩
  ·exact go (by simp only [hs,hcp,zd hk,m1,qa];rfl)
  ·rcases zzk s hg c[k].2.2.1 (sd d[i] n).2 (by have:=(ze.1 hxk.2).1;omega) (by have:=(ze.1 t1.2).1;omega) τ hτ (ze.1 hxk.2).2 (ze.1 t1.2).2 with ⟨_,m2⟩ | ⟨ρ,hρ,_,_,m2⟩
   ·exact go (by simp only [hs,hcp,zd hk,m1,m2,qa];rfl)
   ·obtain ⟨b,o,e,ho⟩:=ih ρ hρ;have hw:IntKind.i64.wrap ((k:Int)+1)=((k+1:Nat):Int):=zb (by omega)
    cases b with
    | false=>exact go (by simp only [hs,hcp,zd hk,m1,m2,hw,e,qa];rfl)
    | true=>
     refine .inr ⟨o,ho,zfA _ _ _ _ _ _ _ _ _ _ ?_⟩;simp only [zcg,za,zg,hlt,qf,zd hk,qa];rw [qb hp];simp only [hs,hcp,m1,m2,hw,e,qa];rfl
theorem zI4 (k:Nat) (hk:k<c.length) (σ:Int->List Int) (hσ:okB s.1 σ) (ih: ∀σ,okB s.1 σ-> ∃(b:Bool) (o:List (List Int)),zcM M s c d ((k+1:Nat):Int) (tabS σ)=some ((o,b,()),())∧o.length<=12): ∀m i:Nat,i+m=d.length->
  zbX M c d k (tabS σ) s d d.length i=some (.inl ())∨ ∃o:List (List Int),o.length<=12∧zbX M c d k (tabS σ) s d d.length i=some (.inr ((o,true,()),())):=by
 have d1:=(zq.1 hd).1;intro m
 induction m with
 | zero=>
  intro i hi;obtain rfl:i=d.length:=by omega
  refine .inl (zkU _ _ _ _ _ _ _ _ ?_);simp only [zeN]
  rw [qc (by simp)]
 | succ m im=>
  intro i hi;have h:i<d.length:=by omega
  have hlt:decide ((i:Int)<(d.length:Int))=true:=by simp;omega
  have I:=zJR s hg c d hc hd k hk σ hσ ih i h 2 0 (by omega);rw [show ((0:Nat):Int)=0 from rfl] at I;rcases I with e | ⟨o,ho,e⟩
  ·have key: ∀X,zbX M c d k (tabS σ) s d d.length ((i+1:Nat):Int)=some X->zbX M c d k (tabS σ) s d d.length i=some X:=by
    intro X hX;refine zkU _ _ _ _ _ _ _ _ ?_;simp only [zeN,za,zg,hlt,qf,zd h,e,qa,qd];rw [zb (by omega)];exact hX
   rcases im (i+1) (by omega) with h1 | ⟨o,h1,h2⟩
   ·exact .inl (key _ h1)
   ·exact .inr ⟨o,h1,key _ h2⟩
  ·refine .inr ⟨o,ho,zkU _ _ _ _ _ _ _ _ ?_⟩;simp only [zeN,za,zg,hlt,qf,zd h,e,qa,qF]
theorem zI1: ∀(m k:Nat) (σ:Int->List Int),k+m=c.length->okB s.1 σ-> ∃(b:Bool) (o:List (List Int)),zcM M s c d k (tabS σ)=some ((o,b,()),())∧o.length<=12:=by
 intro m
 induction m with
 | zero=>
  intro k σ hk hσ;refine ⟨true,tabS σ,znS _ _ _ _ _ ?_,by rw [zd4];omega⟩;simp only [zhE]
  rw [qb (by simp;omega)]
 | succ m ih=>
  intro k σ hk hσ;have hne: ¬((k:Int)==(c.length:Int))=true:=by simp;omega
  have I:=zI4 s hg c d hc hd k (by omega) σ hσ (fun σ' h'=>ih (k+1) σ' (by omega) h') d.length 0 (by omega);rw [show ((0:Nat):Int)=0 from rfl] at I;rcases I with e | ⟨o,ho,e⟩
  ·refine ⟨false,[],znS _ _ _ _ _ ?_,by simp⟩;simp only [zhE,za,e,qa,qd];rw [qc hne]
  ·refine ⟨true,o,znS _ _ _ _ _ ?_,ho⟩;simp only [zhE,za,e,qa,qF];rw [qc hne]
theorem zI0: ∃(b:Bool) (o:List (List Int)),zpJ M s c d=some ((o,b,()),()):=by
 have hin:=zfq (c.length:Int) 1 4
 cases hA:(decide ((1:Int)<=(c.length:Int))&&decide ((c.length:Int)<=4)) with
 | false=>
  rw [hA] at hin;refine ⟨false,[],zqd _ _ _ ?_⟩;simp only [zkR,za,hin,qa]
  rfl
 | true=>
 rw [hA] at hin;by_cases hB:(decide ((c.length:Int)>(d.length:Int)))=true
 ·refine ⟨false,[],zqd _ _ _ ?_⟩;simp only [zkR,za,hin,hB,qa,qf];rfl
 ·have hB':decide ((c.length:Int)>(d.length:Int))=false:=by simpa using hB
  have ht:List.replicate (Int.toNat (12:Int)) ([]:List Int)=tabS (fun _=> []):=rfl;obtain ⟨b,o,e,ho⟩:=zI1 s hg c d hc hd c.length 0 (fun _=> []) (by omega) (fun v h=>absurd rfl h);rw [show ((0:Nat):Int)=0 from rfl] at e;have g:0<=(12:Int)∧((24:Nat):Int)*(12:Int)<=140737488355328∧(12:Int)=(12:Int):=by omega
  cases b with
  | false=>
   refine ⟨false,[],zqd _ _ _ ?_⟩;simp only [zkR,za,hin,hB',qa,ht,e,qb g,qn,qg,qe]
   rfl
  | true=>
   obtain ⟨b',e2⟩:=zDP o.length 0 o (by omega) (by omega);rw [show ((0:Nat):Int)=0 from rfl] at e2;refine ⟨true,b',zqd _ _ _ ?_⟩;simp only [zkR,za,hin,hB',qa,ht,e,e2,qb g,qn,qg,qe,qd];rfl
end
omit hg in
theorem zJM (x:TLit) (hx:smL x) (A D:List TLit) (N i0:Int) (P:List TLit) (hP:P.length<=1000): ∀k j:Nat,j+k=P.length->zaf M A x D N i0 P P.length j=some (.inl (A,D,N,i0,()))∨zaf M A x D N i0 P P.length j=some (.inr ((true,()),())):=by
 intro k
 induction k with
 | zero=>
  intro j hj;obtain rfl:j=P.length:=by omega
  refine .inl (zhW _ _ _ _ _ _ _ _ ?_);simp only [zc5,zg]
  rw [qc (by simp)]
 | succ k ih=>
  intro j hj;have h:j<P.length:=by omega
  have hlt:decide ((j:Int)<(P.length:Int))=true:=by simp;omega
  have e:=(zuU x P[j] hx).2
  have key:((!(x.1==P[j].1))=true->sameT x P[j]=false)-> ∀X,zaf M A x D N i0 P P.length ((j+1:Nat):Int)=some X->zaf M A x D N i0 P P.length j=some X:=by
   intro hq X hX;refine zhW _ _ _ _ _ _ _ _ ?_;simp only [zc5,zg,hlt,qf,zd h,e,qa];rw [zb (by omega)];by_cases h2:(!(x.1==P[j].1))=true
   ·rw [qb h2,hq h2,qc (by simp)];exact hX
   ·rw [qc h2];exact hX
  by_cases h1:(!(x.1==P[j].1))=true∧sameT x P[j]=true
  ·refine .inr (zhW _ _ _ _ _ _ _ _ ?_);simp only [zc5,zg,hlt,qf,zd h,e,qa];rw [qb h1.1,h1.2,qb rfl]
  ·have hq:(!(x.1==P[j].1))=true->sameT x P[j]=false:=fun h2=>by
    cases h3:sameT x P[j] with
    | false=>rfl
    | true=>exact absurd ⟨h2,h3⟩ h1
   exact (ih (j+1) (by omega)).imp (key hq _) (key hq _)
omit hg in
theorem zHn (c:List TLit) (hc:c.length<=1000) (hx: ∀x∈c,smL x): ∀k i:Nat,i+k=c.length->zbh M c c c.length i=some (.inl ())∨zbh M c c c.length i=some (.inr ((true,()),())):=by
 intro k
 induction k with
 | zero=>
  intro i hi;obtain rfl:i=c.length:=by omega
  refine .inl (zj8 _ _ _ _ ?_);simp only [zel]
  rw [qc (by simp)]
 | succ k ih=>
  intro i hi;have h:i<c.length:=by omega
  have hlt:decide ((i:Int)<(c.length:Int))=true:=by simp;omega
  have hxi:=hx _ (qi h);have es:=zis c[i].2.1 c[i].2.2.1 (by have:=hxi.1;omega);have g:0<=(0:Int)∧(0:Int)<=(i:Int)∧(i:Int)<=(c.length:Int):=by omega
  have I:=zJM c[i] hxi c c c.length i ((c.take (i:Int).toNat).drop (Int.toNat (0:Int))) (by simp;omega) _ 0 (qI _);rw [show ((0:Nat):Int)=0 from rfl] at I;by_cases h1:c[i].1=true∧c[i].2.1=c[i].2.2.1
  ·refine .inr (zj8 _ _ _ _ ?_);simp only [zel,hlt,qf,zd h,es,qa,qp h1.2];rw [qb h1.1]
  ·have key: ∀W,zaf M c c[i] c c.length i ((c.take (i:Int).toNat).drop (Int.toNat (0:Int))) (((c.take (i:Int).toNat).drop (Int.toNat (0:Int))).length:Int) 0=some W-> ∀X,(Sum.elim (fun y3:List TLit×List TLit×Int×Int×Unit=>(zbh M y3.1 y3.2.1 y3.2.2.1 (IntKind.i64.wrap (y3.2.2.2.1+1)))) (fun r4=>(some (.inr r4))) W)=some X->zbh M c c c.length i=some X:=by
    intro W hW X hX;refine zj8 _ _ _ _ ?_;simp only [zel,zg,hlt,qf,zd h,es,qa,qb g,hW];by_cases h2:c[i].1=true
    ·rw [qb h2,qr (fun h3=>h1 ⟨h2,h3⟩),qc (by simp)];exact hX
    ·rw [qc h2];exact hX
   rcases I with e | e
   ·refine (ih (i+1) (by omega)).imp (fun h'=>key _ e _ ?_) (fun h'=>key _ e _ ?_)
    ·simp only [qd];rw [zb (by omega)];exact h'
    ·simp only [qd];rw [zb (by omega)];exact h'
   ·exact .inr (key _ e _ rfl)
omit hg in
theorem zEc (c:List TLit) (hc:c.length<=1000) (hx: ∀x∈c,smL x): ∃b:Bool,zgC M c=some ((b,()),()):=by
 have L:=zHn c hc hx c.length 0 (by omega);rw [show ((0:Nat):Int)=0 from rfl] at L;rcases L with e | e
 ·exact ⟨false,zr0 _ (by simp only [zjW,e,qa,qd])⟩
 ·exact ⟨true,zr0 _ (by simp only [zjW,e,qa,qF])⟩
theorem zEO (c:List TLit) (hc:clOK s.1 c=true) (l:List (List TLit)) (hl:l.length<=1048576) (hx: ∀d∈l,clOK s.1 d=true): ∀k i:Nat,i+k=l.length->zbE M c s l l.length i=some (.inl ())∨zbE M c s l l.length i=some (.inr ((true,()),())):=by
 intro k
 induction k with
 | zero=>
  intro i hi;obtain rfl:i=l.length:=by omega
  refine .inl (zj5 _ _ _ _ _ ?_);simp only [zeg]
  rw [qc (by simp)]
 | succ k ih=>
  intro i hi;have h:i<l.length:=by omega
  have hlt:decide ((i:Int)<(l.length:Int))=true:=by simp;omega
  obtain ⟨b,o,e⟩:=zI0 s hg l[i] c (hx _ (qi h)) hc
  cases b with
  | true=>
   refine .inr (zj5 _ _ _ _ _ ?_)
   simp only [zeg,za,hlt,qf,zd h,e,qa]
  | false=>
   have key: ∀X,zbE M c s l l.length ((i+1:Nat):Int)=some X->zbE M c s l l.length i=some X:=by
    intro X hX;refine zj5 _ _ _ _ _ ?_;simp only [zeg,za,hlt,qf,zd h,e,qa,qg,qe];rw [zb (by omega)];exact hX
   exact (ih (i+1) (by omega)).imp (key _) (key _)
theorem zJ4 (c:List TLit) (hc:clOK s.1 c=true) (l:List (List TLit)) (hl:l.length<=1048576) (hx: ∀d∈l,clOK s.1 d=true): ∃b:Bool,zgK M s c l=some ((b,()),()):=by
 obtain ⟨q1,q2⟩:=zDf hc;obtain ⟨b,e⟩:=zEc c (by omega) q2
 cases b with
 | true=>exact ⟨true,zmH _ _ _ (by simp only [zgI,e,qa,qf])⟩
 | false=>
  have L:=zEO s hg c hc l hl hx l.length 0 (by omega);rw [show ((0:Nat):Int)=0 from rfl] at L;rcases L with f | f
  ·exact ⟨false,zmH _ _ _ (by simp only [zgI,za,e,f,qa,qg,qe,qd])⟩
  ·exact ⟨true,zmH _ _ _ (by simp only [zgI,za,e,f,qa,qg,qe,qF])⟩
omit hg in
theorem zD0 (c:List TLit) (hc:c.length<=1000): ∀(k i:Nat) (n:Int),i+k=c.length-> ∃r:Int,zgQ M n c c.length i=some (.inl (r,())):=by
 intro k
 induction k with
 | zero=>
  intro i n hi;obtain rfl:i=c.length:=by omega
  refine ⟨n,zqH _ _ _ _ ?_⟩;simp only [ziN]
  rw [qc (by simp)]
 | succ k ih=>
  intro i n hi;have h:i<c.length:=by omega
  have hlt:decide ((i:Int)<(c.length:Int))=true:=by simp;omega
  obtain ⟨r,e⟩:=ih (i+1) (IntKind.i64.wrap (n+IntKind.i64.wrap ((c[i].2.1.length:Int)+(c[i].2.2.1.length:Int)))) (by omega);refine ⟨r,zqH _ _ _ _ ?_⟩;simp only [ziN,hlt,qf,zd h,qa];rw [zb (by omega)];exact e
omit hg in
theorem zzR (c:List TLit) (hc:c.length<=1000): ∃r:Int,zjx M c=some ((r,()),()):=by
 obtain ⟨r,e⟩:=zD0 c hc c.length 0 0 (by omega);rw [show ((0:Nat):Int)=0 from rfl] at e;exact ⟨r,zzK _ (by simp only [zpB,e,qa,qd])⟩
section
variable (steps : List TStep) (hsc : ∀ x ∈ steps, clOK s.1 x.2.2.2.1 = true) (ps : List Int) (hp : ps.length <= 1048576) (hps : ∀ k ∈ ps, 0 <= k ∧ k < (steps.length : Int))
include hsc hp hps
omit hg in
theorem zCh: ∀(k i:Nat) (b:Int),i+k=ps.length->b∈ps-> ∃r:Int,r∈ps∧zf3 M steps b ps ps.length i=some (.inl (r,())):=by
 intro k
 induction k with
 | zero=>
  intro i b hi hb;obtain rfl:i=ps.length:=by omega
  refine ⟨b,hb,zlk _ _ _ _ _ ?_⟩;simp only [zfC]
  rw [qc (by simp)]
 | succ k ih=>
  intro i b hi hb;have h:i<ps.length:=by omega
  have hlt:decide ((i:Int)<(ps.length:Int))=true:=by simp;omega
  obtain ⟨m,em,hm⟩:=zkL (hps _ (qi h)).1 (hps _ (qi h)).2;obtain ⟨n,rfl,hn⟩:=zkL (hps _ hb).1 (hps _ hb).2;have w1:=(zq.1 (hsc _ (qi hm))).1;have w2:=(zq.1 (hsc _ (qi hn))).1;obtain ⟨r1,e1⟩:=zzR steps[m].2.2.2.1 (by omega);obtain ⟨r2,e2⟩:=zzR steps[n].2.2.2.1 (by omega);have hmem:(m:Int)∈ps:=by rw [<-em];exact qi h
  by_cases hd:decide (r1<r2)=true
  ·obtain ⟨r,q1,q2⟩:=ih (i+1) m (by omega) hmem;refine ⟨r,q1,zlk _ _ _ _ _ ?_⟩;simp only [zfC,hlt,qf,zd h,em,zd hm,zd hn,e1,e2,hd,qa,qd];rw [zb (by omega)];exact q2
  ·obtain ⟨r,q1,q2⟩:=ih (i+1) n (by omega) hb;refine ⟨r,q1,zlk _ _ _ _ _ ?_⟩;simp only [zfC,hlt,qf,zd h,em,zd hm,zd hn,e1,e2,qa];rw [qc hd];simp only [qa,qd];rw [zb (by omega)];exact q2
omit hg in
theorem zGY (round:Int) (h0:0<ps.length): ∃r:Int,r∈ps∧zjB M steps ps round=some ((r,()),()):=by
 have i0:idx ps 0=some ps[0]:=zd (i:=0) h0;have n4: ¬(4:Int)=0:=by decide
 cases hr:(Int.tmod round 4==0) with
 | true=>
  refine ⟨ps[0],qi h0,zuz _ _ _ ?_⟩
  simp only [zmE,i0,hr,n4,qa,qf,qe]
 | false=>
  obtain ⟨r,q1,q2⟩:=zCh s steps hsc ps hp hps ps.length 0 ps[0] (by omega) (qi h0);rw [show ((0:Nat):Int)=0 from rfl] at q2;refine ⟨r,q1,zuz _ _ _ ?_⟩;simp only [zmE,i0,hr,n4,q2,qa,qe,qg,qd]
omit hg in
theorem zE5: ∀(k i:Nat) (o:List Int),i+k=ps.length->o.length<=10->(∀x∈o,x∈ps∧isU (gtC steps x)=true)-> ∃o':List Int,zhI M steps o ps ps.length i=some (.inl (o',()))∧o'.length<=10∧ ∀x∈o',x∈ps∧isU (gtC steps x)=true:=by
 intro k
 induction k with
 | zero=>
  intro i o hi ho hx;obtain rfl:i=ps.length:=by omega
  refine ⟨o,zm8 _ _ _ _ _ ?_,ho,hx⟩;simp only [zgR]
  rw [qc (by simp)]
 | succ k ih=>
  intro i o hi ho hx;have h:i<ps.length:=by omega
  have hlt:decide ((i:Int)<(ps.length:Int))=true:=by simp;omega
  obtain ⟨m,em,hm⟩:=zkL (hps _ (qi h)).1 (hps _ (qi h)).2;have w1:=(zq.1 (hsc _ (qi hm))).1;have hU:=(zwc steps[m].2.2.2.1 (by omega)).2;have hmem:(m:Int)∈ps:=by rw [<-em];exact qi h
  by_cases hd:isU steps[m].2.2.2.1=true∧o.length<10
  ·obtain ⟨o',q1,q2,q3⟩:=ih (i+1) (o++ [(m:Int)]) (by omega) (by simp;omega) (fun x hx'=>by
    rcases qt.1 hx' with h' | h'
    ·exact hx x h'
    ·rw [qM.1 h'];exact ⟨hmem,by rw [ztK hm];exact hd.1⟩)
   refine ⟨o',zm8 _ _ _ _ _ ?_,q2,q3⟩;simp only [zgR,hlt,qf,zd h,em,zd hm,hU,hd.1,qa];rw [qb (show decide ((o.length:Int)<10)=true by simp;omega),qb (show (List.length o+List.length ([(m:Int)]:List Int))*8<=140737488355328 by simp;omega)];simp only [qa,qd];rw [zb (by omega)];exact q1
  ·obtain ⟨o',q1,q2,q3⟩:=ih (i+1) o (by omega) ho hx;refine ⟨o',zm8 _ _ _ _ _ ?_,q2,q3⟩;simp only [zgR,hlt,qf,zd h,em,zd hm,hU,qa];by_cases h2:isU steps[m].2.2.2.1=true
   ·have h3: ¬o.length<10:=fun h3=>hd ⟨h2,h3⟩
    rw [qb h2,qc (by simp;omega)];simp only [qa,qd];rw [zb (by omega)];exact q1
   ·rw [qc h2];simp only [qa,qd];rw [zb (by omega)];exact q1
omit hg in
theorem zHs: ∃o':List Int,zkO M steps ps=some ((o',()),())∧o'.length<=10∧ ∀x∈o',x∈ps∧isU (gtC steps x)=true:=by
 obtain ⟨o',q1,q2,q3⟩:=zE5 s steps hsc ps hp hps ps.length 0 [] (by omega) (by simp) (by simp);rw [show ((0:Nat):Int)=0 from rfl] at q1;exact ⟨o',zAh _ _ (by simp only [zq4,q1,qa,qd]),q2,q3⟩
end
section
variable (c d : List TLit) (hc : clOK s.1 c = true) (hd : clOK s.1 d = true)
include hc hd
theorem zKh (i sc j ot m1 m2 m3 m4:Int) (x:TLit) (D:List TLit) (L:Nat) (hL:L<=1000): ∀(k q:Nat) (o:List TWay),q+k=L->o.length+k<=1000000-> ∃o':List TWay,zc4 M c d s o i sc j x ot m1 m2 D m3 m4 L q=some (.inl (c,d,s,o',i,sc,j,x,ot,m1,m2,D,m3,m4,()))∧o'.length<=o.length+k:=by
 intro k
 induction k with
 | zero=>
  intro q o hq ho;obtain rfl:q=L:=by omega
  refine ⟨o,zhm _ _ _ _ _ _ _ _ _ _ _ _ _ _ _ _ ?_,by omega⟩;simp only [zcH,za,zg]
  rw [qc (by simp)]
 | succ k ih=>
  intro q o hq ho;have hlt:decide ((q:Int)<(L:Int))=true:=by simp;omega
  obtain ⟨r,_,r2,_⟩:=zzb s hg c d hc hd i sc j ot q
  cases h:(r.1.2.1==0) with
  | true=>
   obtain ⟨o',e1,e2⟩:=ih (q+1) (o++ [(i,sc,j,ot,(q:Int),())]) (by omega) (by simp;omega);refine ⟨o',zhm _ _ _ _ _ _ _ _ _ _ _ _ _ _ _ _ ?_,by simp at e2;omega⟩;simp only [zcH,za,zg,hlt,qf,r2,h,qa];rw [qb (by simp;omega)];simp only [qa,qd,za,zg];rw [zb (by omega)]
   exact e1
  | false=>
   obtain ⟨o',e1,e2⟩:=ih (q+1) o (by omega) (by omega);refine ⟨o',zhm _ _ _ _ _ _ _ _ _ _ _ _ _ _ _ _ ?_,by omega⟩;simp only [zcH,za,zg,hlt,qf,r2,h,qa,qg,qe,qd];rw [zb (by omega)];exact e1
theorem zKu (i sc m1 m2 m3 m4:Int) (j:Int) (x:TLit) (hx:litOK s.1 x=true) (D:List TLit): ∀(k n:Nat) (o:List TWay),n+k=2->o.length+100*k<=1000000-> ∃o':List TWay,zdH M c d s o i sc j x n m1 m2 D m3 m4=some (.inl (c,d,s,o',i,sc,m1,m2,D,m3,m4,()))∧o'.length<=o.length+100*k:=by
 intro k
 induction k with
 | zero=>
  intro n o hn ho;obtain rfl:n=2:=by omega
  refine ⟨o,znd _ _ _ _ _ _ _ _ _ _ _ _ _ _ ?_,by omega⟩;simp only [zft,za]
  rw [qc (by simp)]
 | succ k ih=>
  intro n o hn ho;have hlt:decide ((n:Int)<2)=true:=by simp;omega
  have hs:=(zjl x n).2;have lim:=zci hx;have hl:(sd x n).1.length<=100:=by unfold sd;split<;>simp only<;>omega
  obtain ⟨o1,f1,f2⟩:=zKh s hg c d hc hd i sc j n m1 m2 m3 m4 x D (sd x n).1.length (by omega) _ 0 o (qI _) (by omega);rw [show ((0:Nat):Int)=0 from rfl] at f1;obtain ⟨o',e1,e2⟩:=ih (n+1) o1 (by omega) (by omega);refine ⟨o',znd _ _ _ _ _ _ _ _ _ _ _ _ _ _ ?_,by omega⟩;simp only [zft,za,zg,hlt,qf,hs,f1,qa,qd];rw [zb (by omega)];exact e1
theorem zKt (i sc m1 m2:Int): ∀(k j:Nat) (o:List TWay),j+k=d.length->o.length+200*k<=1000000-> ∃o':List TWay,zfd M c d s o i sc m1 m2 d d.length j=some (.inl (c,d,s,o',i,sc,m1,m2,()))∧o'.length<=o.length+200*k:=by
 have d1:=(zq.1 hd).1;intro k
 induction k with
 | zero=>
  intro j o hj ho;obtain rfl:j=d.length:=by omega
  refine ⟨o,zpe _ _ _ _ _ _ _ _ _ _ _ ?_,by omega⟩;simp only [zhj,za]
  rw [qc (by simp)]
 | succ k ih=>
  intro j o hj ho;have h:j<d.length:=by omega
  have hlt:decide ((j:Int)<(d.length:Int))=true:=by simp;omega
  obtain ⟨o1,f1,f2⟩:=zKu s hg c d hc hd i sc m1 m2 d.length j j d[j] ((zq.1 hd).2 _ (qi h)) d 2 0 o (by omega) (by omega);rw [show ((0:Nat):Int)=0 from rfl] at f1;obtain ⟨o',e1,e2⟩:=ih (j+1) o1 (by omega) (by omega);refine ⟨o',zpe _ _ _ _ _ _ _ _ _ _ _ ?_,by omega⟩;simp only [zhj,za,zg,hlt,qf,zd h,f1,qa,qd];rw [zb (by omega)];exact e1
theorem zKb (i m1 m2:Int): ∀(k n:Nat) (o:List TWay),n+k=2->o.length+2000*k<=1000000-> ∃o':List TWay,zgb M c d s o i n m1 m2=some (.inl (c,d,s,o',m1,m2,()))∧o'.length<=o.length+2000*k:=by
 have d1:=(zq.1 hd).1;intro k
 induction k with
 | zero=>
  intro n o hn ho;obtain rfl:n=2:=by omega
  refine ⟨o,zpG _ _ _ _ _ _ _ _ ?_,by omega⟩;simp only [zh8,za]
  rw [qc (by simp)]
 | succ k ih=>
  intro n o hn ho;have hlt:decide ((n:Int)<2)=true:=by simp;omega
  obtain ⟨o1,f1,f2⟩:=zKt s hg c d hc hd i n m1 m2 d.length 0 o (by omega) (by omega);rw [show ((0:Nat):Int)=0 from rfl] at f1;obtain ⟨o',e1,e2⟩:=ih (n+1) o1 (by omega) (by omega);refine ⟨o',zpG _ _ _ _ _ _ _ _ ?_,by omega⟩;simp only [zh8,za,hlt,qf,f1,qa,qd];rw [zb (by omega)];exact e1
set_option maxRecDepth 20000 in
theorem zKj: ∀(k i:Nat) (o:List TWay),i+k=c.length->o.length+4000*k<=1000000-> ∃o':List TWay,ziz M c d s o c.length i=some (.inl (o',()))∧o'.length<=o.length+4000*k:=by
 have c1:=(zq.1 hc).1;intro k
 induction k with
 | zero=>
  intro i o hi ho;obtain rfl:i=c.length:=by omega
  refine ⟨o,zsO _ _ _ _ _ _ ?_,by omega⟩;simp only [zks]
  rw [qc (by simp)]
 | succ k ih=>
  intro i o hi ho;have hlt:decide ((i:Int)<(c.length:Int))=true:=by simp;omega
  have hq2:o.length+2000*2<=1000000:=by
   have q1:2000*2<=4000*(k+1):=by omega
   exact Nat.le_trans (Nat.add_le_add_left q1 _) ho
  have hz2:0+2=2:=rfl;obtain ⟨o1,f1,f2⟩:=zKb s hg c d hc hd i c.length i 2 0 o hz2 hq2;rw [show ((0:Nat):Int)=0 from rfl] at f1;obtain ⟨o',e1,e2⟩:=ih (i+1) o1 (by omega) (by omega);refine ⟨o',zsO _ _ _ _ _ _ ?_,by omega⟩;simp only [zks,za,hlt,qf,f1,qa,qd];rw [zb (by omega)];exact e1
theorem zIO: ∃o:List TWay,zoH M s c d=some ((o,()),())∧o.length<=40000:=by
 have c1:=(zq.1 hc).1
 have hq:([]:List TWay).length+4000*c.length<=1000000:=by
  have e:([]:List TWay).length=0:=rfl;rw [e];omega
 obtain ⟨o,e1,e2⟩:=zKj s hg c d hc hd c.length 0 [] (qI _) hq;rw [show ((0:Nat):Int)=0 from rfl] at e1;refine ⟨o,zBu _ _ _ ?_,by simp only [qR] at e2;omega⟩;simp only [zsy,za,e1,qa,qd]
end
end
theorem zGF: ∀(c:List TLit) (ts:List (List Int)),(wtZ c ts).length<=c.length
 | [],_=>by simp [wtZ]
 | _::_,[]=>by simp [wtZ]
 | _::_,[_]=>by simp [wtZ]
 | y::c,a::b::r=>by simp only [wtZ,qD];have:=zGF c r;omega
theorem zEb: ∀(l:List (List Int)) (m:List (Int×Int)) (y:List Int),y∈rnL m l-> ∃t∈l,y.length=t.length
 | [],_,y,h=>by simp [rnL] at h
 | t::r,m,y,h=>by
  simp only [rnL] at h;rcases qA.1 h with rfl | h
  ·exact ⟨t,by simp,(zvp t m).1⟩
  ·obtain ⟨u,hu,e⟩:=zEb r _ y h;exact ⟨u,qm _ hu,e⟩
theorem zII {a:List Int} {c:List TLit} (hc:clOK a c=true):(rnC c).length<=8∧ ∀x∈rnC c,x.2.1.length<=100∧x.2.2.1.length<=100:=by
 obtain ⟨c1,c2⟩:=zq.1 hc;have h1:=zGF c (rnL [] (tms c));refine ⟨by unfold rnC;omega,fun x hx=>?_⟩;obtain ⟨k1,k2⟩:=zAg _ _ x hx
 have key: ∀y∈rnL [] (tms c),y.length<=100:=by
  intro y hy;obtain ⟨t,ht,e⟩:=zEb _ _ _ hy;obtain ⟨z,hz,e'⟩:=zdb.1 ht;have:=zci (c2 z hz);rcases e' with rfl | rfl<;>omega
 exact ⟨key _ k1,key _ k2⟩
theorem zCY (c d:List TLit) (hl:c.length=d.length) (hc:c.length<=1000) (hx: ∀x∈c,x.2.1.length<=100∧x.2.2.1.length<=100): ∀k i:Nat,i+k=c.length-> ∃b:Bool,zhK M c d c.length i=some (if b=true then .inl () else .inr ((false,()),())):=by
 intro k
 induction k with
 | zero=>
  intro i hi;obtain rfl:i=c.length:=by omega
  refine ⟨true,zgS _ _ _ _ ?_⟩;simp only [zdo];rw [qc (by simp)]
  rfl
 | succ k ih=>
  intro i hi;have h:i<c.length:=by omega
  have h':i<d.length:=by omega
  obtain ⟨b,hb⟩:=ih (i+1) (by omega);have g1:0<=(i:Int)∧(i:Int)<(c.length:Int):=by omega
  have g2:0<=(i:Int)∧(i:Int)<(d.length:Int):=by omega
  have e1:c[(i:Int).toNat]?=some c[i]:=by rw [qo,qv h]
  have e2:d[(i:Int).toNat]?=some d[i]:=by rw [qo,qv h']
  have hlt:decide ((i:Int)<(c.length:Int))=true:=by simp;omega
  have hxi:=hx _ (qi h);obtain ⟨b1,hb1⟩: ∃b:Bool,zao M c[i].2.1 d[i].2.1=some ((b,()),()):=⟨_,zis c[i].2.1 d[i].2.1 (by omega)⟩;obtain ⟨b2,hb2⟩: ∃b:Bool,zao M c[i].2.2.1 d[i].2.2.1=some ((b,()),()):=⟨_,zis c[i].2.2.1 d[i].2.2.1 (by omega)⟩;by_cases hp:(!(c[i].1==d[i].1))=true
  ·refine ⟨false,zgS _ _ _ _ ?_⟩;simp only [zdo,hlt,qf,qb g1,qb g2,e1,e2,qa];rw [qb hp];rfl
  ·cases b1 with
   | false=>
    refine ⟨false,zgS _ _ _ _ ?_⟩;simp only [zdo,hlt,qf,qb g1,qb g2,e1,e2,qa,hb1];rw [qc hp]
    rfl
   | true=>
   cases b2 with
   | false=>
    refine ⟨false,zgS _ _ _ _ ?_⟩;simp only [zdo,hlt,qf,qb g1,qb g2,e1,e2,qa,hb1,hb2];rw [qc hp]
    rfl
   | true=>
    refine ⟨b,zgS _ _ _ _ ?_⟩;simp only [zdo,hlt,qf,qb g1,qb g2,e1,e2,qa,hb1,hb2];rw [qc hp,zb (by omega)];simp only [qn,qg,qe];exact hb
theorem zHY {a:List Int} (c d:List TLit) (hc:clOK a c=true) (hd:clOK a d=true): ∃b:Bool,zoF M c d=some ((b,()),()):=by
 obtain ⟨c1,c2⟩:=zq.1 hc;obtain ⟨d1,d2⟩:=zq.1 hd
 have lim: ∀x:TLit,litOK a x=true->x.2.1.length<=1000∧x.2.2.1.length<=1000:=fun x hx=>by
  obtain ⟨h1,h2⟩:=zW.1 hx;have:=zci hx;omega
 have r1:=(zw7 c (by omega) (fun x hx=>lim x (c2 x hx))).2;have r2:=(zw7 d (by omega) (fun x hx=>lim x (d2 x hx))).2;obtain ⟨hl,hx⟩:=zII hc;by_cases e:(rnC c).length=(rnC d).length
 ·obtain ⟨b,hb⟩:=zCY (rnC c) (rnC d) e (by omega) hx (rnC c).length 0 (by omega);rw [show ((0:Nat):Int)=0 from rfl] at hb;refine ⟨b,zwq _ _ ?_⟩;simp only [zoD,r1,r2,qa,hb];rw [qc (by simp [e])];cases b<;>rfl
 ·refine ⟨false,zwq _ _ ?_⟩;simp only [zoD,r1,r2,qa];rw [qb (by simp;omega)]
section
variable (s : TSign) (hg : gS s.1 = true) (c : List TLit) (hc : clOK s.1 c = true)
include hg hc
theorem zKe (lits:List Int) (i sc j m1 m2 m3 m4:Int): ∀(k n:Nat) (o:List TWay),n+k=2->o.length+k<=1000000-> ∃o':List TWay,zcE M c s lits o i sc j n m1 m2 m3 m4=some (.inl (c,s,lits,o',i,sc,m1,m2,m3,m4,()))∧o'.length<=o.length+k:=by
 intro k
 induction k with
 | zero=>
  intro n o hn ho;obtain rfl:n=2:=by omega
  refine ⟨o,zgE _ _ _ _ _ _ _ _ _ _ _ _ ?_,by omega⟩;simp only [zcr,za]
  rw [qc (by simp)]
 | succ k ih=>
  intro n o hn ho;obtain ⟨r,_,r2,_⟩:=zyP s hg c hc i sc j n 0;have hlt:decide ((n:Int)<2)=true:=by simp;omega
  cases h:(r.1.2.1==0) with
  | true=>
   obtain ⟨o',e1,e2⟩:=ih (n+1) (o++ [(i,sc,j,(n:Int),0,())]) (by omega) (by simp;omega);refine ⟨o',zgE _ _ _ _ _ _ _ _ _ _ _ _ ?_,by simp at e2;omega⟩;simp only [zcr,za,hlt,qf,r2,h,qa];rw [qb (by simp;omega)];simp only [qa,qd,za];rw [zb (by omega)]
   exact e1
  | false=>
   obtain ⟨o',e1,e2⟩:=ih (n+1) o (by omega) (by omega);refine ⟨o',zgE _ _ _ _ _ _ _ _ _ _ _ _ ?_,by omega⟩;simp only [zcr,za,hlt,qf,r2,h,qa,qg,qe,qd];rw [zb (by omega)];exact e1
theorem zKm (lits:List Int) (i sc m1 m2:Int): ∀(k j:Nat) (o:List TWay),j+k=c.length->o.length+2*k<=1000000-> ∃o':List TWay,zdF M c s lits o i sc m1 m2 c.length j=some (.inl (c,s,lits,o',i,sc,m1,m2,()))∧o'.length<=o.length+2*k:=by
 have c1:=(zq.1 hc).1;intro k
 induction k with
 | zero=>
  intro j o hj ho;obtain rfl:j=c.length:=by omega
  refine ⟨o,zmV _ _ _ _ _ _ _ _ _ _ ?_,by omega⟩;simp only [zfg,za]
  rw [qc (by simp)]
 | succ k ih=>
  intro j o hj ho;have hlt:decide ((j:Int)<(c.length:Int))=true:=by simp;omega
  obtain ⟨o1,f1,f2⟩:=zKe s hg c hc lits i sc j m1 m2 c.length j 2 0 o (by omega) (by omega);rw [show ((0:Nat):Int)=0 from rfl] at f1;obtain ⟨o',e1,e2⟩:=ih (j+1) o1 (by omega) (by omega);refine ⟨o',zmV _ _ _ _ _ _ _ _ _ _ ?_,by omega⟩;simp only [zfg,za,hlt,qf,f1,qa,qd];rw [zb (by omega)];exact e1
theorem zIg (lits:List Int) (i m1 m2:Int): ∀(k n:Nat) (o:List TWay),n+k=2->o.length+16*k<=1000000-> ∃o':List TWay,zeU M c s lits o i n m1 m2=some (.inl (c,s,lits,o',m1,m2,()))∧o'.length<=o.length+16*k:=by
 have c1:=(zq.1 hc).1;intro k
 induction k with
 | zero=>
  intro n o hn ho;obtain rfl:n=2:=by omega
  refine ⟨o,zn7 _ _ _ _ _ _ _ _ ?_,by omega⟩;simp only [zgt,za]
  rw [qc (by simp)]
 | succ k ih=>
  intro n o hn ho;have hlt:decide ((n:Int)<2)=true:=by simp;omega
  obtain ⟨o1,f1,f2⟩:=zKm s hg c hc lits i n m1 m2 c.length 0 o (by omega) (by omega);rw [show ((0:Nat):Int)=0 from rfl] at f1;obtain ⟨o',e1,e2⟩:=ih (n+1) o1 (by omega) (by omega);refine ⟨o',zn7 _ _ _ _ _ _ _ _ ?_,by omega⟩;simp only [zgt,za,hlt,qf,f1,qa,qd];rw [zb (by omega)];exact e1
theorem zJ5: ∀(k i:Nat) (lits:List Int) (o:List TWay),i+k=c.length->lits.length<=i->o.length<=32*i-> ∃(lits':List Int) (o':List TWay),zf5 M c s lits o c.length i=some (.inl (lits',o',()))∧lits'.length<=8∧o'.length<=256:=by
 have c1:=(zq.1 hc).1;intro k
 induction k with
 | zero=>
  intro i lits o hi hl ho;obtain rfl:i=c.length:=by omega
  refine ⟨lits,o,zlh _ _ _ _ _ _ ?_,by omega,by omega⟩;simp only [zfk,za]
  rw [qc (by simp)]
 | succ k ih=>
  intro i lits o hi hl ho;have hlt:decide ((i:Int)<(c.length:Int))=true:=by simp;omega
  obtain ⟨r,_,r2,_⟩:=zxH s hg c hc i
  cases h:(r.1.2.1==0) with
  | true=>
   obtain ⟨o1,f1,f2⟩:=zIg s hg c hc (lits++ [(i:Int)]) i c.length i 2 0 o (by omega) (by omega);rw [show ((0:Nat):Int)=0 from rfl] at f1;obtain ⟨l',o',e1,e2,e3⟩:=ih (i+1) (lits++ [(i:Int)]) o1 (by omega) (by simp;omega) (by omega);refine ⟨l',o',zlh _ _ _ _ _ _ ?_,e2,e3⟩;simp only [zfk,za,hlt,qf,r2,h,qa];rw [qb (by simp;omega)];simp only [qa,qd,za,f1];rw [zb (by omega)]
   exact e1
  | false=>
   obtain ⟨o1,f1,f2⟩:=zIg s hg c hc lits i c.length i 2 0 o (by omega) (by omega);rw [show ((0:Nat):Int)=0 from rfl] at f1;obtain ⟨l',o',e1,e2,e3⟩:=ih (i+1) lits o1 (by omega) (by omega) (by omega);refine ⟨l',o',zlh _ _ _ _ _ _ ?_,e2,e3⟩;simp only [zfk,za,hlt,qf,r2,h,qa,qg,qe,qd,f1];rw [zb (by omega)];exact e1
theorem zFh: ∃(lits:List Int) (o:List TWay),zjK M s c=some ((lits,o,()),())∧lits.length<=8∧o.length<=256:=by
 obtain ⟨l,o,e1,e2,e3⟩:=zJ5 s hg c hc c.length 0 [] [] (by omega) (by simp) (by simp);rw [show ((0:Nat):Int)=0 from rfl] at e1;refine ⟨l,o,zzG _ _ ?_,e2,e3⟩;simp only [zp7,za,e1,qa,qd]
end
def okX (a:List Int) (x:TStep):Prop:=clOK a x.2.2.2.1=true∧x.2.1.length<=20∧x.2.2.1.length<=20
def okS (a:List Int) (l:List TStep):Prop:=l.length<=200∧ ∀x∈l,okX a x
def okQ (n:Nat) (ps:List Int):Prop:=ps.length<=n∧ ∀k∈ps,0<=k∧k<(n:Int)
theorem okQ.mono {n m:Nat} {ps:List Int} (h:okQ n ps) (k:n<=m):okQ m ps:=⟨by have:=h.1;omega,fun x hx=>by have:=h.2 x hx;omega⟩
theorem okS.push {a:List Int} {l:List TStep} (h:okS a l) (h2:l.length<200) {x:TStep} (hx:okX a x):okS a (l++ [x]):=
 ⟨by simp;omega,fun y hy=>by
  rcases qt.1 hy with hy | hy
  ·exact h.2 y hy
  ·rw [qM.1 hy];exact hx⟩
section
variable (s : TSign) (hg : gS s.1 = true) (inputs : List (List TLit)) (hi : inputs.length <= 1048576) (hic : ∀ c ∈ inputs, clOK s.1 c = true)
include hg hi hic
theorem zA1 (steps:List TStep) (hS:okS s.1 steps) (rule:Int) (par way:List Int) (hp:par.length<=20) (hw:way.length<=20) (hpr: ∀k∈par,0<=k∧k<(steps.length:Int)):
  ∃(x:TStep) (ok:Bool),zgf M s inputs steps rule par way=some ((x,ok,()),(steps,()))∧okX s.1 x:=by
 obtain ⟨ok,C,e,hC⟩:=zJm s hg inputs hi hic steps (by have:=hS.1;omega) (fun x hx=>(hS.2 x hx).1) par way (by omega) (by omega) hpr rule
 cases ok with
 | false=>
  refine ⟨(0,[],[],[],()),false,ztO _ _ _ _ _ _ ?_,by simp [clOK],by simp,by simp⟩;simp only [zlj,za,e,qa]
  rfl
 | true=>
  refine ⟨(rule,par,way,C,()),true,ztO _ _ _ _ _ _ ?_,hC rfl,hp,hw⟩;simp only [zlj,za,e,qa,ziu par (by omega),ziu way (by omega)];rfl
omit hg hi hic in
theorem zIq (code:Int) (steps:List TStep) (hS:okS s.1 steps) (ps:List Int) (x:TStep) (hx:okX s.1 x):
  ∃(b:Bool) (code':Int) (steps':List TStep),(∀u:Value,zfM M (s,inputs,(code,steps,u,()),ps,()) x=some ((b,()),((s,inputs,(code',steps',u,()),ps,()),())))∧okS s.1 steps'∧(b=true->steps'=steps++ [x])∧(b=false->steps'=steps):=by
 by_cases h:steps.length=200
 ·refine ⟨false,3,steps,fun u=>zsY _ _ ?_,hS,fun h=>(by cases h),fun _=>rfl⟩;simp only [zkn,za];rw [qb (by simp [h])]
 ·have h1:=hS.1;refine ⟨true,code,steps++ [x],fun u=>zsY _ _ ?_,hS.push (by omega) hx,fun _=>rfl,fun h=>by cases h⟩;simp only [zkn,za,zcz];rw [qc (by simp;omega),qb (by simp;omega)]
omit hi hic in
theorem zFD (code:Int) (steps:List TStep) (hS:okS s.1 steps) (ps:List Int) (x:TStep) (hx:okX s.1 x): ∀k i:Nat,i+k=steps.length-> ∃b:Bool,∀u:Value,
  zdq M (s.1,inputs,code,steps,u,ps,()) x steps.length i=some (if b=true then .inl ((s.1,inputs,code,steps,u,ps,()),x,()) else .inr ((true,()),((s,inputs,(code,steps,u,()),ps,()),()))):=by
 have _:=hg
 intro k
 induction k with
 | zero=>
  intro i hi;obtain rfl:i=steps.length:=by omega
  refine ⟨true,fun u=>zh4 _ _ _ _ ?_⟩;simp only [zcX,zcz];rw [qc (by simp)]
  rfl
 | succ k ih=>
  intro i hi;have h:i<steps.length:=by omega
  have h1:=hS.1;obtain ⟨b,hb⟩:=zHY x.2.2.2.1 steps[i].2.2.2.1 hx.1 (hS.2 _ (qi h)).1;have hlt:decide ((i:Int)<(steps.length:Int))=true:=by simp;omega
  have g1:0<=(i:Int)∧(i:Int)<(steps.length:Int):=by omega
  have e1:steps[(i:Int).toNat]?=some steps[i]:=by rw [qo,qv h]
  cases b with
  | true=>
   refine ⟨false,fun u=>zh4 _ _ _ _ ?_⟩;simp only [zcX,zcz,hlt,qf,qb g1,e1,hb,qa]
   rfl
  | false=>
   obtain ⟨b,hb'⟩:=ih (i+1) (by omega);refine ⟨b,fun u=>zh4 _ _ _ _ ?_⟩;simp only [zcX,zcz,hlt,qf,qb g1,e1,hb,qa,qg,qe];rw [zb (by omega)];exact hb' u
def Nxt (a:List Int) (steps:List TStep) (steps':List TStep) (ps':List Int):Prop:=okS a steps'∧steps.length<=steps'.length∧okQ steps'.length ps'
theorem zCr (code:Int) (steps:List TStep) (hS:okS s.1 steps) (ps:List Int) (hP:okQ steps.length ps) (rule:Int) (par way:List Int) (hp:par.length<=20) (hw:way.length<=20) (hpr: ∀k∈par,0<=k∧k<(steps.length:Int)):
  ∃(b:Bool) (code':Int) (steps':List TStep) (ps':List Int),(∀u:Value,zdB M (s,inputs,(code,steps,u,()),ps,()) rule par way=some ((b,()),((s,inputs,(code',steps',u,()),ps',()),())))∧Nxt s.1 steps steps' ps':=by
 have h1:=hS.1;have h2:=hP.1;obtain ⟨x,ok,e,hx⟩:=zA1 s hg inputs hi hic steps hS rule par way hp hw hpr;obtain ⟨tb,et⟩:=zEc x.2.2.2.1 (by have:=(zq.1 hx.1).1;omega) (zDf hx.1).2
 cases tb with
 | true=>
  refine ⟨true,code,steps,ps,fun u=>zfi _ _ _ _ ?_,hS,ql _,hP⟩;simp only [zcx,za,e,et,qa]
  rfl
 | false=>
  obtain ⟨b,hb⟩:=zFD s hg inputs code steps hS ps x hx steps.length 0 (by omega);rw [show ((0:Nat):Int)=0 from rfl] at hb
  cases b with
  | false=>
   refine ⟨true,code,steps,ps,fun u=>zfi _ _ _ _ ?_,hS,ql _,hP⟩
   simp only [zcx,za,zcz,e,et,hb u,qa,qg,qe,qF]
  | true=>
   obtain ⟨b,code',steps',f1,f2,f3,f4⟩:=zIq s inputs code steps hS ps x hx
   cases b with
   | false=>
    obtain rfl:=f4 rfl;refine ⟨false,code',steps',ps,fun u=>zfi _ _ _ _ ?_,hS,ql _,hP⟩;simp only [zcx,za,zcz,e,et,hb u,qa,qg,qe,qf,qd,f1 u]
    rfl
   | true=>
    obtain rfl:=f3 rfl;have hl:(steps++ [x]).length=steps.length+1:=by simp
    have hw1:IntKind.i64.wrap (((steps++ [x]).length:Int)-1)=(steps.length:Int):=by rw [w64 (by rw [hl];omega) (by rw [hl];omega),hl];omega
    have hP':okQ (steps++ [x]).length (ps++ [(steps.length:Int)]):=by
     refine ⟨by rw [hl];simp;omega,fun k hk=>?_⟩;rw [hl];rcases qt.1 hk with hk | hk
     ·have:=hP.2 k hk;omega
     ·rw [qM.1 hk];omega
    have hroom:(List.length ps+List.length ([(steps.length:Int)]:List Int))*8<=140737488355328:=by simp;omega
    cases hz:((x.2.2.2.1.length:Int)==0) with
    | true=>
     refine ⟨false,1,steps++ [x],ps++ [(steps.length:Int)],fun u=>zfi _ _ _ _ ?_,f2,by omega,hP'⟩;simp only [zcx,za,zcz,e,et,hb u,qa,qg,qe,qf,qd,f1 u,hw1,hz,qn]
     rw [qb hroom]
    | false=>
     refine ⟨true,code',steps++ [x],ps++ [(steps.length:Int)],fun u=>zfi _ _ _ _ ?_,f2,by omega,hP'⟩;simp only [zcx,za,zcz,e,et,hb u,qa,qg,qe,qf,qd,f1 u,hw1,hz,qn];rw [qb hroom]
theorem zGb (m n:Nat) (o:List TWay) (ho:o.length<=40000): ∀(k i:Nat) (code:Int) (steps:List TStep) (ps:List Int),i+k=o.length->okS s.1 steps->okQ steps.length ps->m<steps.length->n<steps.length->
  ∃(b:Bool) (code':Int) (steps':List TStep) (ps':List Int),(∀u:Value,zfv M (s.1,inputs,code,steps,u,ps,()) m n o o.length i=some (if b=true then .inl ((s.1,inputs,code',steps',u,ps',()),()) else .inr ((false,()),((s,inputs,(code',steps',u,()),ps',()),()))))∧Nxt s.1 steps steps' ps':=by
 intro k
 induction k with
 | zero=>
  intro i code steps ps hi hS hP hm hn;obtain rfl:i=o.length:=by omega
  refine ⟨true,code,steps,ps,fun u=>zkS _ _ _ _ _ _ ?_,hS,ql _,hP⟩;simp only [zeZ];rw [qc (by simp)]
  rfl
 | succ k ih=>
  intro i code steps ps hi' hS hP hm hn;have h:i<o.length:=by omega
  have hlt:decide ((i:Int)<(o.length:Int))=true:=by simp;omega
  have g1:0<=(i:Int)∧(i:Int)<(o.length:Int):=by omega
  have e1:o[(i:Int).toNat]?=some o[i]:=by rw [qo,qv h]
  obtain ⟨b,code1,steps1,ps1,f1,N1,N2,N3⟩:=zCr s hg inputs hi hic code steps hS ps hP 2 [(m:Int),(n:Int)] [o[i].1,o[i].2.1,o[i].2.2.1,o[i].2.2.2.1,o[i].2.2.2.2.1] (by simp) (by simp) (fun k hk=>by
   rcases qA.1 hk with rfl | hk
   ·omega
   ·rw [qM.1 hk];omega)
  cases b with
  | false=>
   refine ⟨false,code1,steps1,ps1,fun u=>zkS _ _ _ _ _ _ ?_,N1,N2,N3⟩;simp only [zeZ,za,hlt,qf,qb g1,e1,f1 u,qa]
   rfl
  | true=>
   obtain ⟨b,code2,steps2,ps2,f2,K1,K2,K3⟩:=ih (i+1) code1 steps1 ps1 (by omega) N1 N3 (by omega) (by omega);refine ⟨b,code2,steps2,ps2,fun u=>zkS _ _ _ _ _ _ ?_,K1,by omega,K3⟩;simp only [zeZ,za,hlt,qf,qb g1,e1,f1 u,qa,qn,qg,qe];rw [zb (by omega)];exact f2 u
theorem zKf (code:Int) (steps:List TStep) (hS:okS s.1 steps) (ps:List Int) (hP:okQ steps.length ps) (m n:Nat) (hm:m<steps.length) (hn:n<steps.length):
  ∃(b:Bool) (code':Int) (steps':List TStep) (ps':List Int),(∀u:Value,zhy M (s,inputs,(code,steps,u,()),ps,()) m n=some ((b,()),((s,inputs,(code',steps',u,()),ps',()),())))∧Nxt s.1 steps steps' ps':=by
 obtain ⟨o,w2,w3⟩:=zIO s hg steps[m].2.2.2.1 steps[n].2.2.2.1 (hS.2 _ (qi hm)).1 (hS.2 _ (qi hn)).1;obtain ⟨b,code',steps',ps',f,N⟩:=zGb s hg inputs hi hic m n o w3 o.length 0 code steps ps (by omega) hS hP hm hn;rw [show ((0:Nat):Int)=0 from rfl] at f;have g1:0<=(m:Int)∧(m:Int)<(steps.length:Int):=by omega
 have e1:steps[(m:Int).toNat]?=some steps[m]:=by rw [qo,qv hm]
 have g2:0<=(n:Int)∧(n:Int)<(steps.length:Int):=by omega
 have e2:steps[(n:Int).toNat]?=some steps[n]:=by rw [qo,qv hn]
 refine ⟨b,code',steps',ps',fun u=>zx5 _ _ _ ?_,N⟩;simp only [znR,za,qb g1,qb g2,e1,e2,w2,f u,qa];cases b<;>rfl
end
def okA (n:Nat) (act:List Int):Prop:=act.length<=1000∧ ∀k∈act,0<=k∧k<(n:Int)
theorem okA.mono {n m:Nat} {act:List Int} (h:okA n act) (k:n<=m):okA m act:=⟨h.1,fun x hx=>by have:=h.2 x hx;omega⟩
section
variable (s : TSign) (hg : gS s.1 = true) (inputs : List (List TLit)) (hi : inputs.length <= 1048576) (hic : ∀ c ∈ inputs, clOK s.1 c = true)
include hg hi hic
theorem zFG (code:Int) (steps:List TStep) (hS:okS s.1 steps) (ps:List Int) (hP:okQ steps.length ps) (rule:Int) (par way:List Int) (hp:par.length<=20) (hw:way.length<=20) (hpr: ∀k∈par,0<=k∧k<(steps.length:Int)):
  ∃(b:Bool) (code':Int) (steps':List TStep) (ps':List Int),zh2 M2 (s,inputs,(code,steps,(),()),ps,()) rule par way=some ((b,()),((s,inputs,(code',steps',(),()),ps',()),()))∧Nxt s.1 steps steps' ps':=by
 obtain ⟨b,code',steps',ps',f,N⟩:=zCr s hg inputs hi hic code steps hS ps hP rule par way hp hw hpr;exact ⟨b,code',steps',ps',zvx _ _ _ _ (fun u _=>f u),N⟩
theorem zGf (code:Int) (steps:List TStep) (hS:okS s.1 steps) (ps:List Int) (hP:okQ steps.length ps) (m n:Nat) (hm:m<steps.length) (hn:n<steps.length):
  ∃(b:Bool) (code':Int) (steps':List TStep) (ps':List Int),zku M2 (s,inputs,(code,steps,(),()),ps,()) m n=some ((b,()),((s,inputs,(code',steps',(),()),ps',()),()))∧Nxt s.1 steps steps' ps':=by
 obtain ⟨b,code',steps',ps',f,N⟩:=zKf s hg inputs hi hic code steps hS ps hP m n hm hn;exact ⟨b,code',steps',ps',zxb _ _ _ (fun u _=>f u),N⟩
theorem zIZ (act:List Int) (n:Nat) (o:List TWay) (lits:List Int) (hl:lits.length<=1000): ∀(k i:Nat) (code:Int) (steps:List TStep) (ps:List Int),i+k=lits.length->okS s.1 steps->okQ steps.length ps->n<steps.length->
  ∃(b:Bool) (code':Int) (steps':List TStep) (ps':List Int),zfF M2 (s.1,inputs,code,steps,act,ps,()) n o lits lits.length i=some (if b=true then .inl ((s.1,inputs,code',steps',act,ps',()),(n:Int),o,()) else .inr ((false,()),((s,inputs,(code',steps',act,()),ps',()),())))∧Nxt s.1 steps steps' ps':=by
 intro k
 induction k with
 | zero=>
  intro i code steps ps hi hS hP hn;obtain rfl:i=lits.length:=by omega
  refine ⟨true,code,steps,ps,zkP _ _ _ _ _ _ ?_,hS,ql _,hP⟩;simp only [ze1];rw [qc (by simp)]
  rfl
 | succ k ih=>
  intro i code steps ps hi' hS hP hn;have h:i<lits.length:=by omega
  have hlt:decide ((i:Int)<(lits.length:Int))=true:=by simp;omega
  have g1:0<=(i:Int)∧(i:Int)<(lits.length:Int):=by omega
  have e1:lits[(i:Int).toNat]?=some lits[i]:=by rw [qo,qv h]
  obtain ⟨b,code1,steps1,ps1,f1,N1,N2,N3⟩:=zFG s hg inputs hi hic code steps hS ps hP 3 [(n:Int)] [lits[i]] (by simp) (by simp) (fun k hk=>by rw [qM.1 hk];omega)
  cases b with
  | false=>
   refine ⟨false,code1,steps1,ps1,zkP _ _ _ _ _ _ ?_,N1,N2,N3⟩;simp only [ze1,za,hlt,qf,qb g1,e1,f1,qa]
   rfl
  | true=>
   obtain ⟨b,code2,steps2,ps2,f2,K1,K2,K3⟩:=ih (i+1) code1 steps1 ps1 (by omega) N1 N3 (by omega);refine ⟨b,code2,steps2,ps2,zkP _ _ _ _ _ _ ?_,K1,by omega,K3⟩;simp only [ze1,za,hlt,qf,qb g1,e1,f1,qa,qn,qg,qe];rw [zb (by omega)];exact f2
theorem zH4 (act:List Int) (n:Nat) (o:List TWay) (hl:o.length<=1000): ∀(k i:Nat) (code:Int) (steps:List TStep) (ps:List Int),i+k=o.length->okS s.1 steps->okQ steps.length ps->n<steps.length->
  ∃(b:Bool) (code':Int) (steps':List TStep) (ps':List Int),zeS M2 (s.1,inputs,code,steps,act,ps,()) n o o.length i=some (if b=true then .inl ((s.1,inputs,code',steps',act,ps',()),(n:Int),()) else .inr ((false,()),((s,inputs,(code',steps',act,()),ps',()),())))∧Nxt s.1 steps steps' ps':=by
 intro k
 induction k with
 | zero=>
  intro i code steps ps hi hS hP hn;obtain rfl:i=o.length:=by omega
  refine ⟨true,code,steps,ps,zj4 _ _ _ _ _ ?_,hS,ql _,hP⟩;simp only [zef];rw [qc (by simp)]
  rfl
 | succ k ih=>
  intro i code steps ps hi' hS hP hn;have h:i<o.length:=by omega
  have hlt:decide ((i:Int)<(o.length:Int))=true:=by simp;omega
  have g1:0<=(i:Int)∧(i:Int)<(o.length:Int):=by omega
  have e1:o[(i:Int).toNat]?=some o[i]:=by rw [qo,qv h]
  obtain ⟨b,code1,steps1,ps1,f1,N1,N2,N3⟩:=zFG s hg inputs hi hic code steps hS ps hP 4 [(n:Int)] [o[i].1,o[i].2.1,o[i].2.2.1,o[i].2.2.2.1] (by simp) (by simp) (fun k hk=>by rw [qM.1 hk];omega)
  cases b with
  | false=>
   refine ⟨false,code1,steps1,ps1,zj4 _ _ _ _ _ ?_,N1,N2,N3⟩;simp only [zef,za,hlt,qf,qb g1,e1,f1,qa]
   rfl
  | true=>
   obtain ⟨b,code2,steps2,ps2,f2,K1,K2,K3⟩:=ih (i+1) code1 steps1 ps1 (by omega) N1 N3 (by omega);refine ⟨b,code2,steps2,ps2,zj4 _ _ _ _ _ ?_,K1,by omega,K3⟩;simp only [zef,za,hlt,qf,qb g1,e1,f1,qa,qn,qg,qe];rw [zb (by omega)];exact f2
theorem zHz (act:List Int) (n:Nat): ∀(k i:Nat) (code:Int) (steps:List TStep) (ps:List Int),i+k=act.length->okS s.1 steps->okQ steps.length ps->okA steps.length act->n<steps.length->
  ∃(b:Bool) (code':Int) (steps':List TStep) (ps':List Int),zdc M2 (s.1,inputs,code,steps,act,ps,()) n act.length i=some (if b=true then .inl ((s.1,inputs,code',steps',act,ps',()),()) else .inr ((false,()),((s,inputs,(code',steps',act,()),ps',()),())))∧Nxt s.1 steps steps' ps':=by
 intro k
 induction k with
 | zero=>
  intro i code steps ps hi hS hP hA hn;obtain rfl:i=act.length:=by omega
  refine ⟨true,code,steps,ps,zek _ _ _ _ ?_,hS,ql _,hP⟩;simp only [zb3];rw [qc (by simp)]
  rfl
 | succ k ih=>
  intro i code steps ps hi' hS hP hA hn;have hA1:=hA.1;have h:i<act.length:=by omega
  have hlt:decide ((i:Int)<(act.length:Int))=true:=by simp;omega
  have g1:0<=(i:Int)∧(i:Int)<(act.length:Int):=by omega
  obtain ⟨m,em,hm⟩:=zkL (hA.2 _ (qi h)).1 (hA.2 _ (qi h)).2;have e1:act[(i:Int).toNat]?=some (m:Int):=by rw [qo,qv h,em]
  obtain ⟨b,code1,steps1,ps1,f1,N1,N2,N3⟩:=zGf s hg inputs hi hic code steps hS ps hP m n hm hn
  cases b with
  | false=>
   refine ⟨false,code1,steps1,ps1,zek _ _ _ _ ?_,N1,N2,N3⟩;simp only [zb3,za,hlt,qf,qb g1,e1,f1,qa]
   rfl
  | true=>
   cases hmn:((m:Int) !=(n:Int)) with
   | false=>
    obtain ⟨b,code2,steps2,ps2,f2,K1,K2,K3⟩:=ih (i+1) code1 steps1 ps1 (by omega) N1 N3 (hA.mono N2) (by omega);refine ⟨b,code2,steps2,ps2,zek _ _ _ _ ?_,K1,by omega,K3⟩;simp only [zb3,za,hlt,qf,qb g1,e1,f1,hmn,qa,qn,qg,qe];rw [zb (by omega)]
    exact f2
   | true=>
    obtain ⟨b,code3,steps3,ps3,f3,L1,L2,L3⟩:=zGf s hg inputs hi hic code1 steps1 N1 ps1 N3 n m (by omega) (by omega)
    cases b with
    | false=>
     refine ⟨false,code3,steps3,ps3,zek _ _ _ _ ?_,L1,by omega,L3⟩;simp only [zb3,za,hlt,qf,qb g1,e1,f1,f3,hmn,qa,qn,qg,qe]
     rfl
    | true=>
     obtain ⟨b,code2,steps2,ps2,f2,K1,K2,K3⟩:=ih (i+1) code3 steps3 ps3 (by omega) L1 L3 (hA.mono (by omega)) (by omega);refine ⟨b,code2,steps2,ps2,zek _ _ _ _ ?_,K1,by omega,K3⟩;simp only [zb3,za,hlt,qf,qb g1,e1,f1,f3,hmn,qa,qn,qg,qe];rw [zb (by omega)];exact f2
theorem zKc (code:Int) (steps:List TStep) (hS:okS s.1 steps) (act ps:List Int) (hP:okQ steps.length ps) (hA:act.length<=999∧ ∀k∈act,0<=k∧k<(steps.length:Int)) (n:Nat) (hn:n<steps.length):
  ∃(b:Bool) (code':Int) (steps':List TStep) (act' ps':List Int),zkr M2 (s,inputs,(code,steps,act,()),ps,()) n=some ((b,()),((s,inputs,(code',steps',act',()),ps',()),()))∧Nxt s.1 steps steps' ps'∧act'.length<=act.length+1∧ ∀k∈act',0<=k∧k<(steps'.length:Int):=by
 have g1:0<=(n:Int)∧(n:Int)<(steps.length:Int):=by omega
 have e1:steps[(n:Int).toNat]?=some steps[n]:=by rw [qo,qv hn]
 obtain ⟨lits,o,w,w1,w2⟩:=zFh s hg steps[n].2.2.2.1 (hS.2 _ (qi hn)).1;have w':zjK M2 s steps[n].2.2.2.1=some ((lits,o,()),()):=upC w;obtain ⟨b1,code1,steps1,ps1,f1,N1,N2,N3⟩:=zIZ s hg inputs hi hic act n o lits (by omega) lits.length 0 code steps ps (by omega) hS hP hn;rw [show ((0:Nat):Int)=0 from rfl] at f1
 cases b1 with
 | false=>
  refine ⟨false,code1,steps1,act,ps1,znM _ _ ?_,⟨N1,N2,N3⟩,by omega,fun k hk=>by have:=hA.2 k hk;omega⟩;simp only [zhH,za,qb g1,e1,w',f1,qa]
  rfl
 | true=>
 obtain ⟨b2,code2,steps2,ps2,f2,K1,K2,K3⟩:=zH4 s hg inputs hi hic act n o (by omega) o.length 0 code1 steps1 ps1 (by omega) N1 N3 (by omega);rw [show ((0:Nat):Int)=0 from rfl] at f2
 cases b2 with
 | false=>
  refine ⟨false,code2,steps2,act,ps2,znM _ _ ?_,⟨K1,by omega,K3⟩,by omega,fun k hk=>by have:=hA.2 k hk;omega⟩;simp only [zhH,za,qb g1,e1,w',f1,f2,qa,qd,qf]
  rfl
 | true=>
 have hA':okA steps2.length (act++ [(n:Int)]):=⟨by simp;omega,fun k hk=>by
  rcases qt.1 hk with hk | hk
  ·have:=hA.2 k hk;omega
  ·rw [qM.1 hk];omega⟩
 obtain ⟨b3,code3,steps3,ps3,f3,L1,L2,L3⟩:=zHz s hg inputs hi hic (act++ [(n:Int)]) n (act++ [(n:Int)]).length 0 code2 steps2 ps2 (by omega) K1 K3 hA' (by omega);rw [show ((0:Nat):Int)=0 from rfl] at f3;have hroom:(List.length act+List.length ([(n:Int)]:List Int))*8<=140737488355328:=by simp;omega
 refine ⟨b3,code3,steps3,act++ [(n:Int)],ps3,znM _ _ ?_,⟨L1,by omega,L3⟩,by simp,(hA'.mono L2).2⟩;simp only [zhH,za,qb g1,e1,w',f1,f2,qa,qd,qf];rw [qb hroom,f3];cases b3<;>rfl
omit hi hic in
theorem zGa (code:Int) (steps:List TStep) (hS:okS s.1 steps) (act ps:List Int) (n:Int) (us:List Int) (hu:us.length<=10) (hux: ∀k∈us,(0<=k∧k<(steps.length:Int))∧isU (gtC steps k)=true): ∀(k i:Nat) (lits:List TLit),i+k=us.length->lits.length<=i->(∀x∈lits,litOK s.1 x=true)->
  ∃lits':List TLit,zc6 M2 (s.1,inputs,code,steps,act,ps,()) n us lits us.length i=some (.inl ((s.1,inputs,code,steps,act,ps,()),n,us,lits',()))∧lits'.length<=10∧ ∀x∈lits',litOK s.1 x=true:=by
 have _:=hg
 intro k
 induction k with
 | zero=>
  intro i lits hi hl hx;obtain rfl:i=us.length:=by omega
  refine ⟨lits,zlL _ _ _ _ _ _ ?_,by omega,hx⟩;simp only [zer]
  rw [qc (by simp)]
 | succ k ih=>
  intro i lits hi hl hx;have h1:=hS.1;have h:i<us.length:=by omega
  have hlt:decide ((i:Int)<(us.length:Int))=true:=by simp;omega
  have g1:0<=(i:Int)∧(i:Int)<(us.length:Int):=by omega
  obtain ⟨⟨k0,k1⟩,hU⟩:=hux _ (qi h);obtain ⟨m,em,hm⟩:=zkL k0 k1;rw [em] at hU;rw [ztK hm] at hU;have e1:us[(i:Int).toNat]?=some (m:Int):=by rw [qo,qv h,em]
  have g2:0<=(m:Int)∧(m:Int)<(steps.length:Int):=by omega
  have e2:steps[(m:Int).toNat]?=some steps[m]:=by rw [qo,qv hm]
  have eU:=zq9 hU;have hc:=(zq.1 (hS.2 _ (qi hm)).1).2 (hdL steps[m].2.2.2.1) (by rw [eU];exact qM.2 rfl);have hx0:idx steps[m].2.2.2.1 0=some (hdL steps[m].2.2.2.1):=by rw [eU];rfl
  obtain ⟨lits',e3,e4,e5⟩:=ih (i+1) (lits++ [hdL steps[m].2.2.2.1]) (by omega) (by simp;omega) (fun x h'=>by
   rcases qt.1 h' with h' | h'
   ·exact hx x h'
   ·rw [qM.1 h'];exact hc)
  refine ⟨lits',zlL _ _ _ _ _ _ ?_,e4,e5⟩;simp only [zer,hlt,qf,qb g1,qb g2,e1,e2,hx0,qa,zg];rw [qb (by simp;omega),zb (by omega)];exact e3
theorem zFN (code:Int) (steps:List TStep) (hS:okS s.1 steps) (act ps:List Int) (hA:okA steps.length act) (n:Nat) (hn:n<steps.length):
  ∃(r:Int) (code':Int) (steps':List TStep),zg4 M2 (s,inputs,(code,steps,act,()),ps,()) n=some ((r,()),((s,inputs,(code',steps',act,()),ps,()),()))∧okS s.1 steps'∧steps.length<=steps'.length∧(r<0∨ ∃m:Nat,r=(m:Int)∧m<steps'.length):=by
 have h1:=hS.1;have hA1:=hA.1;obtain ⟨us,u0,u2,u4⟩:=zHs s steps (fun x hx=>(hS.2 x hx).1) act (by omega) hA.2;have u1:zkO M2 steps act=some ((us,()),()):=upC u0;have u3: ∀k∈us,(0<=k∧k<(steps.length:Int))∧isU (gtC steps k)=true:=fun k hk=>⟨hA.2 k (u4 k hk).1,(u4 k hk).2⟩
 obtain ⟨lits,l1,l2,l3⟩:=zGa s hg inputs code steps hS act ps n us u2 u3 us.length 0 [] (by omega) (by simp) (by simp);rw [show ((0:Nat):Int)=0 from rfl] at l1;have g1:0<=(n:Int)∧(n:Int)<(steps.length:Int):=by omega
 have e1:steps[(n:Int).toNat]?=some steps[n]:=by rw [qo,qv hn]
 obtain ⟨C,z1,z2,_,_,_,r2⟩:=zxG s lits hg (by omega) l3 steps[n].2.2.2.1 (hS.2 _ (qi hn)).1;have r3:zfr M2 s steps[n].2.2.2.1 lits=some ((C,z2,()),()):=upC r2
 cases hz:(z2==0) with
 | true=>
  refine ⟨n,code,steps,zkZ _ _ ?_,hS,ql _,.inr ⟨n,rfl,hn⟩⟩
  simp only [zeY,za,u1,l1,qb g1,e1,r3,hz,qa,qd,qf]
 | false=>
  have hroom:(List.length ([(n:Int)]:List Int)+List.length us)*8<=140737488355328:=by simp;omega
  obtain ⟨x,ok,f,hx⟩:=zA1 s hg inputs hi hic steps hS 5 ([(n:Int)]++us) [] (by simp;omega) (by simp) (fun k hk=>by
   rcases qt.1 hk with hk | hk
   ·rw [qM.1 hk];omega
   ·exact (u3 k hk).1)
  have f':zgf M2 s inputs steps 5 ([(n:Int)]++us) []=some ((x,ok,()),(steps,())):=upC f;obtain ⟨b,code',steps',p1,p2,p3,p4⟩:=zIq s inputs code steps hS ps x hx;have p5:znI M2 (s,inputs,(code,steps,(),()),ps,()) x=some ((b,()),((s,inputs,(code',steps',(),()),ps,()),())):=zxF _ _ (fun u _=>p1 u)
  cases b with
  | false=>
   obtain rfl:=p4 rfl;refine ⟨-1,code',steps',zkZ _ _ ?_,hS,ql _,.inl (by omega)⟩;simp only [zeY,za,zcz,u1,l1,qb g1,e1,r3,hz,qb hroom,f',p5,qa,qd,qf,qg,qe]
   rfl
  | true=>
   obtain rfl:=p3 rfl;have hl:(steps++ [x]).length=steps.length+1:=by simp
   have hw1:IntKind.i64.wrap (((steps++ [x]).length:Int)-1)=(steps.length:Int):=by rw [w64 (by rw [hl];omega) (by rw [hl];omega),hl];omega
   refine ⟨steps.length,code',steps++ [x],zkZ _ _ ?_,p2,by omega,.inr ⟨steps.length,rfl,by omega⟩⟩;simp only [zeY,za,zcz,u1,l1,qb g1,e1,r3,hz,qb hroom,f',p5,hw1,qa,qd,qf,qg,qe,qn]
end
def inOK (a:List Int) (l:List (List TLit)):Bool:=decide (l.length<=12)&&l.all (clOK a)
theorem zIc (s:TSign) (hg:gS s.1=true) (c:List TLit) (hc:c.length<=1048576):zfU M c s=some ((!clOK s.1 c,()),()):=by
 apply zux;simp only [zi9,zap,zvX s hg c hc,qa]
theorem zHS (s:TSign) (hg:gS s.1=true) (a:List (List TLit)) (ha:a.length<=1048576) (hx: ∀c∈a,smC c): ∀k i:Nat,i+k=a.length-> ∃r,zn M a (s,()) a.length i=some r∧(match r with | .inl _=>(a.drop i).all (clOK s.1)=true | .inr r=>0<=r.1.1∧(a.drop i).all (clOK s.1)=false):=by
 intro k
 induction k with
 | zero=>
  intro i hi;obtain rfl:i=a.length:=by omega
  refine ⟨.inl (),zat _ _ _ _ (by simp [zl]),by simp⟩
 | succ k ih=>
  intro i hi;have h1:i<a.length:=by omega
  obtain ⟨r,hr,hm⟩:=ih (i+1) (by omega);have hc:=(hx _ (qi h1)).1;rw [qj h1,qT];by_cases hp:clOK s.1 a[i]=true
  ·refine ⟨r,zat _ _ _ _ ?_,by rw [hp,Bool.true_and];exact hm⟩;simp only [zl];rw [qb (by simpa using h1),zd h1,zb (by omega)];simp only [qa,zIc s hg _ hc,hp,qn,qg,qe];exact hr
  ·rw [Bool.not_eq_true] at hp;refine ⟨.inr (((i:Int),()),()),zat _ _ _ _ ?_,Int.natCast_nonneg i,by rw [hp,Bool.false_and]⟩;simp only [zl];rw [qb (by simpa using h1),zd h1];simp only [qa,zIc s hg _ hc,hp,qU,qf]
theorem zyA (s:TSign) (hg:gS s.1=true) (a:List (List TLit)) (ha:a.length<=1048576) (hx: ∀c∈a,smC c):zg0 M s a=some ((inOK s.1 a,()),()):=by
 obtain ⟨r,hr,hm⟩:=zHS s hg a ha hx a.length 0 (by omega);rw [show ((0:Nat):Int)=0 from rfl] at hr;rw [qk] at hm
 have key:zI M a (s,())=some ((!(a.all (clOK s.1)),()),()):=by
  apply zes;simp only [zav]
  cases r with
  | inl r=>
   rw [zbL a (s,()) (r:=((-1,()),())) (by simp only [zU,hr,qa,qd])];simp only at hm
   simp [hm]
  | inr r=>
   rw [zbL a (s,()) (r:=r) (by simp only [zU,hr,qa,qF])];simp only at hm;simp [hm]
 apply zvG;simp only [zkH,zap,key,qa,Bool.not_not,inOK];by_cases h:a.length<=12
 ·rw [qb (by simp;omega),qp h,Bool.true_and]
 ·rw [qc (by simp;omega),qr h,Bool.false_and]
theorem zwd (s:TSign) (hs:s.1.length<=1048576) (a:List (List TLit)) (ha:a.length<=1048576) (hx: ∀c∈a,smC c):zfn M s a=some ((gS s.1&&inOK s.1 a,()),()):=by
 cases hg:gS s.1 with
 | false=>
  have h: ∀k i:Nat,i+k=a.length->zcs M a s a a.length i=some (.inl (a,s,()))∨zcs M a s a a.length i=some (.inr ((false,()),())):=by
   intro k
   induction k with
   | zero=>
    intro i hi;obtain rfl:i=a.length:=by omega
    refine .inl (zd1 _ _ _ _ _ ?_);simp only [zcU,za]
    rw [qc (by simp)]
   | succ k ih=>
    intro i hi;have h1:i<a.length:=by omega
    obtain ⟨c1,c2⟩:=hx _ (qi h1);obtain ⟨b,hb⟩:=zDQ s hs a[i] c1 c2
    have hq:zcU M a s a a.length i=if b=true then zcs M a s a a.length ((i+1:Nat):Int) else some (.inr ((false,()),())):=by
     simp only [zcU,za];rw [qb (by simpa using h1),zd h1,zb (by omega)];simp only [qa,hb];cases b<;>rfl
    cases b with
    | false=>exact .inr (zd1 _ _ _ _ _ hq)
    | true=>
     rcases ih (i+1) (by omega) with h | h
     ·exact .inl (zd1 _ _ _ _ _ (hq.trans h))
     ·exact .inr (zd1 _ _ _ _ _ (hq.trans h))
  have h0:=h a.length 0 (by omega);rw [show ((0:Nat):Int)=0 from rfl] at h0;apply zuK;rcases h0 with h0 | h0
  ·simp only [zjJ,za,h0,qa,qd,zqs s (by omega),hg];rfl
  ·simp only [zjJ,za,h0,qa,qF];rfl
 | true=>
  have h: ∀k i:Nat,i+k=a.length->zcs M a s a a.length i=some (if (a.drop i).all (clOK s.1)=true then .inl (a,s,()) else .inr ((false,()),())):=by
   intro k
   induction k with
   | zero=>
    intro i hi;obtain rfl:i=a.length:=by omega
    apply zd1;simp only [zcU,za];rw [qc (by simp),qG]
    rfl
   | succ k ih=>
    intro i hi;have h1:i<a.length:=by omega
    obtain ⟨c1,c2⟩:=hx _ (qi h1);apply zd1;simp only [zcU,za];rw [qb (by simpa using h1),zd h1,zb (by omega),qj h1,qT];simp only [qa,zjG s hg a[i] c1 c2]
    cases clOK s.1 a[i] with
    | false=>rfl
    | true=>exact ih (i+1) (by omega)
  have h0:=h a.length 0 (by omega);rw [show ((0:Nat):Int)=0 from rfl,qk] at h0;apply zuK;simp only [zjJ,za,h0,qa,inOK,Bool.true_and]
  cases a.all (clOK s.1) with
  | false=>simp
  | true=>
   simp only [qf,qd,zqs s (show s.1.length<=17592186044416 by omega),hg,qa,wg];congr 3;rw [decide_eq_decide];omega
def ofN (n:Nat) (l:List Int):Bool:=l.all fun k=>decide (0<=k)&&decide (k<(n:Int))
theorem zIp (steps:List TStep) (k:Int):znk M k steps=some ((!(decide (0<=k)&&decide (k<(steps.length:Int))),()),()):=by
 apply zAv;simp only [zq1];by_cases h0:0<=k
 ·rw [qc (by simp;omega),qp h0,Bool.true_and];congr 3;by_cases h1:k<(steps.length:Int)
  ·rw [qp h1,qr (by omega)];rfl
  ·rw [qr h1,qp (by omega)];rfl
 ·rw [qb (by simp;omega),qr h0];rfl
theorem zHf (steps:List TStep) (a:List Int) (ha:a.length<=1048576): ∀k i:Nat,i+k=a.length-> ∃r,zax M a (steps,()) a.length i=some r∧(match r with | .inl _=>ofN steps.length (a.drop i)=true | .inr r=>0<=r.1.1∧ofN steps.length (a.drop i)=false):=by
 intro k
 induction k with
 | zero=>
  intro i hi;obtain rfl:i=a.length:=by omega
  refine ⟨.inl (),zb0 _ _ _ _ (by simp [zar]),by simp [ofN]⟩
 | succ k ih=>
  intro i hi;have h1:i<a.length:=by omega
  obtain ⟨r,hr,hm⟩:=ih (i+1) (by omega)
  have e:ofN steps.length (a.drop i)=((decide (0<=a[i])&&decide (a[i]<(steps.length:Int)))&&ofN steps.length (a.drop (i+1))):=by
   rw [qj h1];rfl
  rw [e]
  cases hp:(decide (0<=a[i])&&decide (a[i]<(steps.length:Int))) with
  | true=>
   refine ⟨r,zb0 _ _ _ _ ?_,by rw [Bool.true_and];exact hm⟩;simp only [zar];rw [qb (by simpa using h1),zd h1,zb (by omega)];simp only [qa,zIp,hp,qn,qg,qe]
   exact hr
  | false=>
   refine ⟨.inr (((i:Int),()),()),zb0 _ _ _ _ ?_,Int.natCast_nonneg i,by rw [Bool.false_and]⟩;simp only [zar];rw [qb (by simpa using h1),zd h1];simp only [qa,zIp,hp,qU,qf]
theorem zEn (steps:List TStep) (a:List Int) (ha:a.length<=1048576):zmQ M steps a=some ((ofN steps.length a,()),()):=by
 obtain ⟨r,hr,hm⟩:=zHf steps a ha a.length 0 (by omega);rw [show ((0:Nat):Int)=0 from rfl] at hr;rw [qk] at hm
 have key:zbe M a (steps,())=some ((!(ofN steps.length a),()),()):=by
  apply zkb;simp only [zb8]
  cases r with
  | inl r=>
   rw [zfw a (steps,()) (r:=((-1,()),())) (by simp only [zbu,hr,qa,qd])];simp only at hm
   simp [hm]
  | inr r=>
   rw [zfw a (steps,()) (r:=r) (by simp only [zbu,hr,qa,qF])];simp only at hm;simp [hm]
 apply zDd;simp only [zun,key,qa,Bool.not_not]
end Go.Proofs.YtchkojfhcdcnmaaGreatCk.Ev
