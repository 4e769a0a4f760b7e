/- Texts laid together: QXr, YCb; no condition but those that each theorem names. -/
import Derived.Test.YtchkojfhcdcnmaaGreatMdXAc
import Derived.Test.YtchkojfhcdcnmaaGreatMdQKa
import Derived.Test.YtchkojfhcdcnmaaGreatMdXAoy
import Derived.Test.YtchkojfhcdcnmaaGreatMdSGf
namespace Go.Proofs.YtchkojfhcdcnmaaGreatMd.Ev
open Go
set_option autoImplicit false
set_option linter.unusedVariables false
set_option linter.unusedSimpArgs false
theorem zF2 (z:Int):0<=IntKind.u64.wrap z∧IntKind.u64.wrap z<18446744073709551616:=by
 have:IntKind.u64.wrap z=z % 18446744073709551616:=by simp [IntKind.wrap,IntKind.bits,IntKind.signed]
 rw [this];omega
theorem zK5 (z:Int):0<=shrI .u64 (IntKind.u64.wrap z) 40∧shrI .u64 (IntKind.u64.wrap z) 40<=16777216:=by
 obtain ⟨h1,h2⟩:=zF2 z;have e:shrI .u64 (IntKind.u64.wrap z) 40=(IntKind.u64.wrap z).fdiv 1099511627776:=rfl;rw [e,Int.fdiv_eq_ediv_of_nonneg _ (by omega)];omega
theorem zKM {S:Int} (h1:1<=S) (z:Int):0<=Int.tmod (IntKind.i64.wrap (shrI .u64 (IntKind.u64.wrap z) 40)) S∧Int.tmod (IntKind.i64.wrap (shrI .u64 (IntKind.u64.wrap z) 40)) S<S:=by
 obtain ⟨h2,h3⟩:=zK5 z;rw [w64 (by omega) (by omega)];exact ⟨Int.tmod_nonneg _ h2,Int.tmod_lt_of_pos _ (by omega)⟩
theorem zA6 (b:List Int) (hb:isBytes b): ∀(k i:Nat) (n:Int),i+k=b.length->0<=n->n<=1000002-> ∃r,zhH M n b b.length i=some (.inl (r,()))∧0<=r∧r<=1000002:=by
 obtain ⟨hl,hx⟩:=hb;intro k
 induction k with
 | zero=>
  intro i n hi n0 n1;refine ⟨n,zrZ _ _ _ _ ?_,n0,n1⟩;simp only [zj4]
  rw [qc (by simp;omega)]
 | succ k ih=>
  intro i n hi n0 n1;have h1:i<b.length:=by omega
  have hxi:=hx _ (qi h1);have t0:=Int.tmod_nonneg (1000003:Int) (show 0<=31*n+b[i] by omega);have t1:=Int.tmod_lt_of_pos (31*n+b[i]) (show (0:Int)<1000003 by omega);obtain ⟨r,r1,r2,r3⟩:=ih (i+1) (Int.tmod (31*n+b[i]) 1000003) (by omega) t0 (by omega);refine ⟨r,zrZ _ _ _ _ ?_,r2,r3⟩;simp only [zj4];rw [qb (by simp;omega),zd h1];simp only [qa];rw [qc (by omega),w64 (x:=31*n) (by omega) (by omega),w64 (x:=b[i]) (by omega) (by omega),w64 (x:=31*n+b[i]) (by omega) (by omega),zb (by omega)];exact r1
theorem zGq (b:List Int) (hb:isBytes b): ∃r,znO M b=some ((r,()),()):=by
 obtain ⟨r,r1,_⟩:=zA6 b hb b.length 0 0 (by omega) (by omega) (by omega);rw [e0x] at r1;refine ⟨r,zBd _ ?_⟩;simp only [zq8,r1,qa,qd]
theorem zJa (w0 w1:TWorld) (h1:1<=w1.1) (x:Int) (ar:List Int) (L i:Int): ∀(k:Nat) (n:Int),0<=n->n*pw w1.1 k<=1000000->k<=1000->zgp M w0 x w1 (k:Int) n ar L i=some (.inl (w0,x,w1,n*pw w1.1 k,ar,L,i,())):=by
 intro k
 induction k with
 | zero=>
  intro n _ _ _;apply zqD;simp only [zh8];rw [qc (by simp)]
  simp [pw,zbc]
 | succ k ih=>
  intro n n0 hb hk;obtain ⟨m1,m2,m3⟩:=zEM h1 n0 hb;apply zqD;simp only [zh8];rw [qb (by simp<;>omega),w64 (x:=n*w1.1) (by omega) (by omega),w64 (x:=((k+1:Nat):Int)-1) (by omega) (by omega),show ((k+1:Nat):Int)-1=(k:Int) by omega,zbc,zbc,ih _ m1 m3 (by omega)];rw [Int.mul_assoc];rfl
theorem zJf (w0 w1:TWorld) (h1:1<=w1.1) (ar:List Int) (L i:Int): ∀(k:Nat) (x:Int) (t:List Int),t.length+k<=1000->elOK w1.1 t=true-> ∃(x':Int) (t':List Int),zfo M w0 x w1 (k:Int) t ar L i=some (.inl (w0,x',w1,t',ar,L,i,()))∧t'.length=t.length+k∧elOK w1.1 t'=true:=by
 intro k
 induction k with
 | zero=>
  intro x t _ he;refine ⟨x,t,zpx _ _ _ _ _ _ _ _ ?_,rfl,he⟩;simp only [zhi];rw [qc (by simp)]
  all_goals rfl
 | succ k ih=>
  intro x t ht he;obtain ⟨t0,t1⟩:=zKM h1 ((IntKind.u64.wrap (x*(6364136223846793005:Int)))+(1442695040888963407:Int))
  obtain ⟨x',t',e1,e2,e3⟩:=ih (IntKind.u64.wrap ((IntKind.u64.wrap (x*(6364136223846793005:Int)))+(1442695040888963407:Int))) (t++ [Int.tmod (IntKind.i64.wrap (shrI .u64 (IntKind.u64.wrap ((IntKind.u64.wrap (x*(6364136223846793005:Int)))+(1442695040888963407:Int))) (40:Int))) w1.1]) (by simp;omega) (by
   simp only [elOK,List.all_append,qq] at he ⊢;refine ⟨he,?_⟩;simp only [qR,List.all_nil,Bool.and_true,qq,qt];exact ⟨t0,t1⟩)
  refine ⟨x',t',zpx _ _ _ _ _ _ _ _ ?_,by rw [e2];simp;omega,e3⟩;simp only [zhi];rw [qb (by simp<;>omega),qc (by omega),qc (by omega),qb (by simp;omega),w64 (x:=((k+1:Nat):Int)-1) (by omega) (by omega),show ((k+1:Nat):Int)-1=(k:Int) by omega];exact e1
theorem zIb (w0:TWorld) (S:Int) (h1:1<=S) (h3:S<=3) (ar:List Int) (hl:ar.length<=10) (hx: ∀x∈ar,0<=x∧x<=3): ∀(k i:Nat) (x:Int) (o:List (List Int)),i+k=ar.length->o.length=i->
  ∃ts:List (List Int),zhK M w0 x (S,o,()) ar ar.length i=some (.inl (w0,(S,o++ts,()),()))∧ts.length=k∧tabOK S (ar.drop i) ts=true∧ ∀y∈ts,smS y:=by
 intro k
 induction k with
 | zero=>
  intro i x o hi ho;obtain rfl:i=ar.length:=by omega
  refine ⟨[],zrU _ _ _ _ _ _ ?_,rfl,by simp [tabOK],by simp⟩;simp only [zjO];rw [qc (by simp),qP]
  all_goals rfl
 | succ k ih=>
  intro i x o hi ho;have hi1:i<ar.length:=by omega
  have hxa:=hx _ (qi hi1);obtain ⟨n,hn⟩: ∃n:Nat,ar[i]=(n:Int):=⟨ar[i].toNat,by omega⟩;have hp:=zD0 h1 h3 (k:=n) (by omega);have hp0:=zEa h1 n;have e1:=zJa w0 (S,o,()) h1 x ar ar.length i n 1 (by omega) (by rw [Int.one_mul];show pw S n<=1000000;omega) (by omega);rw [Int.one_mul] at e1;obtain ⟨m,hm⟩: ∃m:Nat,pw S n=(m:Int):=⟨(pw S n).toNat,by omega⟩;obtain ⟨x',t',q1,q2,q3⟩:=zJf w0 (S,o,()) h1 ar ar.length i m x [] (by simp;omega) rfl;obtain ⟨ts,r1,r2,r3,r4⟩:=ih (i+1) x' (o++ [t']) (by omega) (by simp [ho]);simp only [qT,qJ] at q2;refine ⟨t'::ts,zrU _ _ _ _ _ _ ?_,by simp [r2],?_,?_⟩
  ·simp only [zjO];rw [qb (by simp;omega),zd hi1];simp only [qa,zbc,hn];rw [e1];simp only [qa,qd];rw [hm,q1];simp only [qa,qd];rw [qb (by simp;omega),zb (by omega),r1,qE];rfl
  ·rw [qj hi1];simp only [tabOK,qq,qt];exact ⟨by rw [q2,hn,qo,hm],q3,r3⟩
  ·intro y hy;rcases qz.1 hy with rfl | hy
   ·unfold smS;rw [q2];omega
   ·exact r4 y hy
theorem zDf (s:TSign) (hg:gS s.1=true) (b:List Int) (hb:isBytes b): ∃w:TWorld,zg1 M s b=some ((w,()),())∧wOK s.1 w=true∧w.2.1.length<=10∧ ∀y∈w.2.1,smS y:=by
 obtain ⟨s10,sx⟩:=zIR hg;obtain ⟨r,r1⟩:=zGq b hb;have u1:=zF2 ((IntKind.u64.wrap r)+(7:Int));have t0:=Int.tmod_nonneg (3:Int) u1.1;have t1:=Int.tmod_lt_of_pos (IntKind.u64.wrap ((IntKind.u64.wrap r)+(7:Int))) (show (0:Int)<3 by omega);obtain ⟨ts,q1,q2,q3,q4⟩:=zIb (0,[],()) (1+Int.tmod (IntKind.u64.wrap ((IntKind.u64.wrap r)+(7:Int))) 3) (by omega) (by omega) s.1 s10 sx s.1.length 0 (IntKind.u64.wrap ((IntKind.u64.wrap r)+(7:Int))) [] (by omega) rfl;rw [e0x] at q1;refine ⟨(1+Int.tmod (IntKind.u64.wrap ((IntKind.u64.wrap r)+(7:Int))) 3,ts,()),zBV _ _ ?_,?_,by simp only;omega,q4⟩
 ·simp only [zsy,r1,qa];rw [qc (by omega),w64 (x:=Int.tmod (IntKind.u64.wrap ((IntKind.u64.wrap r)+(7:Int))) 3) (by omega) (by omega),w64 (by omega) (by omega),q1];rfl
 ·simp only [wOK,qq,qt];exact ⟨by omega,by omega,q2,by simpa using q3⟩
theorem zAc (a:List Int) (ha:a.length<=17592186044416):zkZ M a a=some ((true,()),()):=by
 apply zBv;simp only [zrn,zuJ a ha,qa]
theorem zA4 (a:List TLit) (ha:a.length<=1048576) (hx: ∀x∈a,smL x): ∀k i:Nat,i+k=a.length->zhz M a a a.length i=some (.inl ()):=by
 intro k
 induction k with
 | zero=>
  intro i hi;apply zr8;simp only [zjQ]
  rw [qc (by simp;omega)]
 | succ k ih=>
  intro i hi;have h1:i<a.length:=by omega
  have h2:=hx _ (qi h1);have h3:=h2.1;have h4:=h2.2;apply zr8;simp only [zjQ];rw [qb (by simpa using h1),zd h1,zb (by omega)];simp only [qa];rw [qc (by simp),zAc _ (by omega)];simp only [qa];rw [qc (by simp),zAc _ (by omega)];simp only [qa];rw [qc (by simp)];exact ih (i+1) (by omega)
theorem zFG (a:List TLit) (ha:a.length<=1048576) (hx: ∀x∈a,smL x):zny M a a=some ((true,()),()):=by
 apply zBr;simp only [zrN];have:=zA4 a ha hx a.length 0 (by omega);rw [e0x] at this;rw [qc (by simp),this];rfl
theorem zFW (x:TStep) (hx:smP x):zjB M [x] [x]=some ((true,()),()):=by
 obtain ⟨h1,h2,h3,h4⟩:=hx;have a1:=zuJ x.2.1 (by omega);have a2:=zuJ x.2.2.1 (by omega);have a3:=zFG x.2.2.2.1 h3 h4;have i0:idx [x] (0:Int)=some x:=rfl;have e1:zdd M [x] [x] 1 (1:Int)=some (.inl ()):=zrb _ _ _ _ (by simp only [ziZ];rfl)
 have e0:zdd M [x] [x] 1 (0:Int)=some (.inl ()):=by
  apply zrb;simp only [ziZ,i0,a1,a2,a3,qa];rw [qb (by decide),qc (by simp),qc (by simp),qc (by simp),qc (by simp)];exact e1
 apply zAO;simp only [zqa];rw [qc (by simp)];show (zdd M [x] [x] 1 (0:Int)).bind _=_;rw [e0];rfl
theorem zG7 (v:Int) (a:List Int) (ha:a.length<=1000): ∀k i:Nat,i+k=a.length->v∈a.drop i->zmQ M v a a.length i=some (.inr ((true,()),())):=by
 intro k
 induction k with
 | zero=>
  intro i hi hv;obtain rfl:i=a.length:=by omega
  simp at hv
 | succ k ih=>
  intro i hi hv;have h1:i<a.length:=by omega
  have hlt:decide ((i:Int)<(a.length:Int))=true:=by simp;omega
  apply zCI;simp only [zsg,hlt,qf,zd h1,qa];by_cases he:a[i]=v
  ·rw [qb (by simpa using he)]
  ·rw [qc (by simpa using he),zb (by omega)];rw [qj h1] at hv;rcases qz.1 hv with h | h
   ·exact absurd h.symm he
   ·exact ih (i+1) (by omega) h
theorem zMc (v:Int) (a:List Int) (ha:a.length<=1000) (hv:v∈a):zrl M a v=some ((true,()),()):=by
 have L:=zG7 v a ha a.length 0 (by omega) (by simpa using hv);rw [e0x] at L;apply zHe;simp only [zxg,L,qa,qF]
theorem zGv (A B:List Int) (s:TSign) (hs:s.1.length<=1048576) (w:TWorld) (hw:smW w) (steps:List TStep) (hl:steps.length<=1048576) (hx: ∀x∈steps,smP x) (y:TStep) (ps:List Int) (hp:ps.length<=1000) (hr: ∀k∈ps,0<=k∧k<(steps.length:Int)) (P:Prop): ∀(k i:Nat) (a o:Bool),i+k=ps.length->(a=true->o=true->P)->(a=true->o=true-> ∀q∈ps.take i,∀h:q.toNat<steps.length,HOL s.1 w steps[q.toNat].2.2.2.1)->
  ∃a' o':Bool,zbw M2 A B s steps y w a o ps ps.length i=some (.inl (A,B,s,y,w,a',o',()))∧(a'=true->o'=true->P∧ ∀q∈ps,∀h:q.toNat<steps.length,HOL s.1 w steps[q.toNat].2.2.2.1):=by
 intro k
 induction k with
 | zero=>
  intro i a o hi h1 h2;obtain rfl:i=ps.length:=by omega
  refine ⟨a,o,?_,fun q1 q2=>⟨h1 q1 q2,by simpa using h2 q1 q2⟩⟩;apply zry;simp only [zfX]
  rw [qc (by simp)]
 | succ k ih=>
  intro i a o hi h1 h2;have hi':i<ps.length:=by omega
  have hlt:decide ((i:Int)<(ps.length:Int))=true:=by simp;omega
  have hr':=hr _ (qi hi');obtain ⟨n,hn⟩: ∃n:Nat,ps[i]=(n:Int):=⟨ps[i].toNat,by omega⟩;have hn':n<steps.length:=by omega
  obtain ⟨b,ok,e0,hb⟩:=zwd s hs w hw steps[n].2.2.2.1 (hx _ (qi hn')).2.2.1;have e:zcG M2 s w steps[n].2.2.2.1=some ((b,ok,()),()):=upC e0
  have go: ∀(a' o':Bool),(a'=true->o'=true->a=true∧o=true∧b=true∧ok=true)->zfX M2 A B s steps y w a o ps ps.length i=zbw M2 A B s steps y w a' o' ps ps.length ((i+1:Nat):Int)-> ∃a' o':Bool,zbw M2 A B s steps y w a o ps ps.length i=some (.inl (A,B,s,y,w,a',o',()))∧(a'=true->o'=true->P∧ ∀q∈ps,∀h:q.toNat<steps.length,HOL s.1 w steps[q.toNat].2.2.2.1):=by
   intro a' o' hq hE
   obtain ⟨a2,o2,r1,r2⟩:=ih (i+1) a' o' (by omega) (fun q1 q2=>h1 (hq q1 q2).1 (hq q1 q2).2.1) (fun q1 q2 q hqm hlt=>by
    rw [List.take_succ_eq_append_getElem hi'] at hqm;rcases qr.1 hqm with h | h
    ·exact h2 (hq q1 q2).1 (hq q1 q2).2.1 q h hlt
    ·have hqe:=qM.1 h;subst hqe;have hqn:ps[i].toNat=n:=by omega
     have:=(hb (hq q1 q2).2.2.2).2.2.2.1 (hq q1 q2).2.2.1;simp only [hqn];exact this)
   exact ⟨a2,o2,zry _ _ _ _ _ _ _ _ _ _ _ (hE.trans r1),r2⟩
  have i1:idx ps (i:Int)=some (n:Int):=by rw [zd hi',hn]
  have i2:idx steps (n:Int)=some steps[n]:=zd hn';refine go (a&&b) (o&&ok) (by cases a<;>cases o<;>cases b<;>cases ok<;>simp) ?_;simp only [zfX,hlt,qf,i1,i2,zC,zbc,zef,e,qa];rw [zb (by omega)];cases a<;>cases o<;>rfl
theorem bindInl {α β γ:Type} {o:Option (α⊕β)} {v:α} {F:α->Option γ} {G:β->Option γ} {r:Option γ} (h:o=some (.inl v)) (k:F v=r):o.bind (Sum.elim F G)=r:=by
 subst h;exact k
theorem zJS (a b:List Int) (ha: ∀x∈a,0<=x∧x<=255) (hb: ∀x∈b,0<=x∧x<=255) (la:a.length<=9223372036854775807) (lb:b.length<=9223372036854775807):zpU M2 a b=some ((true,()),()):=by
 have big:zqR M2 a b=some ((decide (1048576<a.length) || decide (1048576-(a.length:Int)<b.length),()),()):=upC (zMK a b la lb);apply zDI;simp only [zt6,big,qa];by_cases hB:(decide (1048576<a.length) || decide (1048576-(a.length:Int)<b.length))=true
 ·rw [qb hB]
 rw [qc hB];simp only [wb,qt,not_or] at hB;have ba:isBytes a:=⟨by omega,ha⟩;have bb:isBytes b:=⟨by omega,hb⟩;obtain ⟨⟨⟨⟨s,⟨⟩⟩,inp,st,rule,ps,way,⟨⟩⟩,⟨⟩⟩,d1,d2,d3,d4,⟨d5,d6⟩,d7,d8⟩:=zBT ba;simp only at d2 d3 d4 d5 d6 d7 d8;have hs:s.length<=1048576:=by have:=d2.1;omega
 have hx: ∀x∈st,smP x:=fun x h=>(d6 x h).smP
 obtain ⟨x,ok,k1,k2,k3,k4⟩:=zHl (s,()) hs inp (by omega) d4 st (by omega) hx rule ps way (by omega) (by omega);have K1:zkQ M2 (s,()) inp st rule ps way=some ((x,ok,()),()):=upC k1;have K2:zkY M2 (s,()) inp st rule ps way=some ((x,ok,()),()):=upC k2;have SS:zjB M2 [x] [x]=some ((true,()),()):=upC (zFW x k3);rw [d1];simp only [K1,K2,zef,SS,qa,wc,qm,qg,qe];refine bindInl (v:=(a,b,())) ?_ ?_
 ·cases ok with
  | false=>rfl
  | true=>
  obtain ⟨g1,g2,g3,g4,g5,g6⟩:=k4 rfl;obtain ⟨w,w1,w2,w3,w4⟩:=zDf (s,()) g1 b bb;have hw:smW w:=⟨by omega,w4⟩;have W1:zg1 M2 (s,()) b=some ((w,()),()):=upC w1;obtain ⟨al,tw,h1,h2⟩:=zC6 (s,()) hs w hw inp (by omega) (fun c hc=>(d4 c hc).1);have H1:zg6 M2 (s,()) w inp=some ((al,tw,()),()):=upC h1;obtain ⟨al2,tw2,L,l2⟩:=zGv a b (s,()) hs w hw st (by omega) hx x ps (by omega) g5 (∀c∈inp,HOL s w c) ps.length 0 al tw (by omega) (fun q1 q2=>h2 q1 q2) (by simp);rw [e0x] at L;obtain ⟨b2,ok2,e0,hb2⟩:=zwd (s,()) hs w hw x.2.2.2.1 k3.2.2.1;have E0:zcG M2 (s,()) w x.2.2.2.1=some ((b2,ok2,()),()):=upC e0;rw [qb rfl];simp only [W1,H1,zbc,L,E0,qa,qd]
  cases tw2 with
  | false=>rfl
  | true=>
  cases ok2 with
  | false=>rfl
  | true=>
  cases al2 with
  | false=>rfl
  | true=>
  obtain ⟨q1,q2⟩:=l2 rfl rfl
  have:b2=true:=(hb2 rfl).2.2.2.2 (g6 w w2 q1 (fun k hk=>by
   have hr:=g5 k hk;obtain ⟨n,rfl⟩: ∃n:Nat,k=(n:Int):=⟨k.toNat,by omega⟩;have hn:n<st.length:=by omega
   rw [zw0 hn];exact q2 _ hk hn))
  subst this;rfl
 obtain ⟨⟨⟨⟨t,⟨⟩⟩,c,d,⟨⟩⟩,⟨⟩⟩,n1,n2,n3,n4,n5⟩:=zzQ bb;simp only at n2 n3 n4 n5;have N1:zeO M2 b=some (((t,()),c,d,()),()):=upC n1;have ht:t.length<=1048576:=by have:=n2.1;omega
 obtain ⟨rb,ro,r1,r2,r3⟩:=zBW (t,()) ht c n3 d (by omega) n5;have R1:zhB M2 (t,()) c d=some ((rb,ro,()),()):=upC r1;have R2:zhN M2 (t,()) c d=some ((rb,ro,()),()):=upC r2;simp only [N1,R1,R2,qa,wc,qm,qg,qe];refine bindInl (v:=(b,())) ?_ ?_
 ·cases ro with
  | false=>rfl
  | true=>
  cases rb with
  | false=>rfl
  | true=>
  obtain ⟨g1,g2,g3,g4⟩:=r3 rfl;obtain ⟨w,w1,w2,w3,w4⟩:=zDf (t,()) g1 a ba;have hw:smW w:=⟨by omega,w4⟩;have W1:zg1 M2 (t,()) a=some ((w,()),()):=upC w1;obtain ⟨al,tw,h1,h2⟩:=zC6 (t,()) ht w hw d (by omega) (fun c hc=>(n5 c hc).1);have H1:zg6 M2 (t,()) w d=some ((al,tw,()),()):=upC h1;obtain ⟨b2,ok2,e0,hb2⟩:=zwd (t,()) ht w hw c n3.1;have E0:zcG M2 (t,()) w c=some ((b2,ok2,()),()):=upC e0;rw [qb rfl,qb rfl];simp only [W1,H1,zbc,E0,qa]
  cases tw with
  | false=>rfl
  | true=>
  cases ok2 with
  | false=>rfl
  | true=>
  cases al with
  | false=>rfl
  | true=>
  have:b2=true:=(hb2 rfl).2.2.2.2 (zIr (t,()) g1 w2 g2 g3 g4.symm (h2 rfl rfl));subst this;rfl
 obtain ⟨⟨⟨⟨u,⟨⟩⟩,su,pu,ru,⟨⟩⟩,⟨⟩⟩,u1,u2,⟨u3,u4⟩,u5⟩:=zwU bb;simp only at u2 u3 u4 u5;have hu:u.length<=1048576:=by have:=u2.1;omega
 have hxu: ∀x∈su,smP x:=fun x h=>(u4 x h).smP
 obtain ⟨ck,co,c1,c2,c3⟩:=zFH (u,()) hu su (by omega) hxu pu (by omega) ru;have C1:zk5 M2 (u,()) su pu ru=some ((ck,co,()),()):=upC c1;have C2:zkB M2 (u,()) su pu ru=some ((ck,co,()),()):=upC c2;obtain ⟨⟨⟨⟨v,⟨⟩⟩,sv,pv,⟨⟩⟩,⟨⟩⟩,v1,v2,⟨v3,v4⟩,v5⟩:=zDZ bb;simp only at v2 v3 v4 v5;have hv:v.length<=1048576:=by have:=v2.1;omega
 have hxv: ∀x∈sv,smP x:=fun x h=>(v4 x h).smP
 obtain ⟨ul,uo,m1,m2,m3⟩:=zG0 (v,()) hv sv (by omega) hxv pv (by omega);have U1:zlN M2 (v,()) sv pv=some ((ul,uo,()),()):=upC m1;have U2:zlZ M2 (v,()) sv pv=some ((ul,uo,()),()):=upC m2;have SI:zeq M2 ul ul=some ((true,()),()):=upC (zuJ ul (by omega));simp only [u1,v1,C1,C2,U1,U2,SI,qa,wc,qf]
 cases co with
 | false=>rfl
 | true=>
 have HY:zrl M2 pu ck=some ((true,()),()):=upC (zMc ck pu (by omega) (c3 rfl));simp only [HY,qm,qg,qe,qa]
end Go.Proofs.YtchkojfhcdcnmaaGreatMd.Ev
