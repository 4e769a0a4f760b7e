/- Texts laid together: WAi, WAj, XAd, XAf, XAb, XAa, XAg, XAh, PLy, SEa, SEb, SEc, SEd, XAc; no condition but those that each theorem names. -/
import Derived.Test.YtchkojfhcdcnmaaGreatMdWAh
import Derived.Test.YtchkojfhcdcnmaaGreatMdQKa
namespace Go.Proofs.YtchkojfhcdcnmaaGreatMd.Ev
open Go
set_option autoImplicit false
set_option linter.unusedVariables false
set_option linter.unusedSimpArgs false
theorem zzo: ∀(l:List TLit) (i n:Nat),i<=n->(l.zipIdx i).filterMap (fun p=>if (p.2:Int)=(n:Int) then none else some p.1)=l.eraseIdx (n-i)
 | [],i,n,_=>by simp
 | x::l,i,n,h=>by
  rw [List.zipIdx_cons,List.filterMap_cons];by_cases e:i=n
  ·subst e;rw [qb rfl,Nat.sub_self,List.eraseIdx_cons_zero]
   have: ∀(l:List TLit) (k:Nat),i<k->(l.zipIdx k).filterMap (fun p=>if (p.2:Int)=(i:Int) then none else some p.1)=l:=by
    intro l
    induction l with
    | nil=>intro k _;simp
    | cons y l ih=>
     intro k hk;rw [List.zipIdx_cons,List.filterMap_cons,qc (by simp;omega),ih (k+1) (by omega)]
   exact this l (i+1) (by omega)
  ·rw [qc (by simp;omega),zzo l (i+1) n (by omega),show n-i=(n-(i+1))+1 by omega,List.eraseIdx_cons_succ]
def newL (ot:Int) (z:TLit) (y:List Int):TLit:=if ot=0 then (z.1,y,z.2.2.1,()) else (z.1,z.2.1,y,())
theorem zLL (s:TSign) (i sc ot p0:Int) (m:Nat) (u l r v V Y:List Int) (f:List (List Int)) (cb eb:List TLit) (hl:eb.length<=1000) (hm:m<eb.length) (hot:ot=0∨ot=1)
  (hr: ∃R,zg5 M s u p0 r=some ((R,()),())∧zA M f R=some ((Y,()),())) (hv:zA M f v=some ((V,()),())) (hz:(ot=0->V=eb[m].2.2.1)∧(ot=1->V=eb[m].2.1)):
  ∀(k q:Nat) (o:List TLit),q+k=eb.length->o.length<=1000+q->zfl M s (i,sc,(m:Int),ot,p0,()) u l r v f cb eb o eb.length q=some (.inl (s,(i,sc,(m:Int),ot,p0,()),u,l,r,v,f,cb,eb,o++(eb.set m (newL ot eb[m] Y)).drop q,())):=by
 obtain ⟨R,hr1,hr2⟩:=hr;have hsl:(eb.set m (newL ot eb[m] Y)).length=eb.length:=by simp
 intro k
 induction k with
 | zero=>
  intro q o hq ho;obtain rfl:q=eb.length:=by omega
  apply zpr;simp only [zhh]
  rw [qc (by simp),List.drop_eq_nil_of_le (by omega),qP]
 | succ k ih=>
  intro q o hq ho;have h1:q<eb.length:=by omega
  have h2:q<(eb.set m (newL ot eb[m] Y)).length:=by omega
  have hd: ∀x:TLit,(eb.set m (newL ot eb[m] Y))[q]=x->o++(eb.set m (newL ot eb[m] Y)).drop q=(o++ [x])++(eb.set m (newL ot eb[m] Y)).drop (q+1):=by
   intro x hx;rw [qj h2,hx,qE];rfl
  apply zpr;simp only [zhh];rw [qb (by simpa using h1),qb (by omega),qo,qu h1];simp only [qa,za];by_cases h:q=m
  ·subst h;rw [qb (by simp),hr1];simp only [qa];rw [hr2];simp only [qa];rw [hv];simp only [qa];rcases hot with rfl | rfl
   ·rw [qc (by decide)];simp only [qa,qd,za];rw [qb (by simp;omega),zb (by omega),ih (q+1) _ (by omega) (by simp;omega),hd (eb[q].1,Y,V,()) (by rw [List.getElem_set_self,newL,qb rfl,hz.1 rfl])]
   ·rw [qb (by decide)];simp only [qa,qd,za];rw [qb (by simp;omega),zb (by omega),ih (q+1) _ (by omega) (by simp;omega),hd (eb[q].1,V,Y,()) (by rw [List.getElem_set_self,newL,qc (by decide),hz.2 rfl])]
  ·rw [qc (by simp;omega)];simp only [qa,qd,za];rw [qb (by simp;omega),zb (by omega),ih (q+1) _ (by omega) (by simp;omega),hd eb[q] (by rw [List.getElem_set_ne (Ne.symm h)])]
def SupOK (a:List Int) (c d:List TLit) (w:TWay) (out:List TLit):Prop:=
 ∃(I J at':Nat) (hI:I<c.length) (hJ:J<(apartC c d).length) (τ:Int->List Int) (p z:List Int),w.1=I∧w.2.2.1=J∧c[I].1=true∧(w.2.2.2.1=0∨w.2.2.2.1=1)∧okU a τ∧(apartC c d).all (litOK a)=true∧(sd (apartC c d)[J] w.2.2.2.1).1.drop at'=p++z∧Tm a p∧
  apS τ (sd c[I] w.2.1).1=apS τ p∧out=(apC τ c).eraseIdx I++(apC τ (apartC c d)).set J (newL w.2.2.2.1 ((apC τ (apartC c d))[J]'(by simpa [apC] using hJ)) (apS τ ((sd (apartC c d)[J] w.2.2.2.1).1.take at'++(sd c[I] w.2.1).2++z)))∧out.length<=8∧ ∀x∈out,litOK a x=true
theorem z8 {a:List Int} {x:TLit}:litOK a x=true↔isT a x.2.1=true∧isT a x.2.2.1=true:=by simp [litOK]
theorem zIy {a:List Int} (hg:gS a=true) {τ:Int->List Int} (hτ:okU a τ) {x:TLit} (hx:litOK a x=true):litOK a (x.1,apS τ x.2.1,apS τ x.2.2.1,())=(decide ((apS τ x.2.1).length<=40)&&decide ((apS τ x.2.2.1).length<=40)):=by
 have hT: ∀v,τ v≠ []->Tm a (τ v):=fun v h=>(zf.1 (hτ.1 v h).1).2
 obtain ⟨h1,h2⟩:=z8.1 hx;have t1:=zkt hg hT (zf.1 h1).2;have t2:=zkt hg hT (zf.1 h2).2;simp only [litOK,isT,qp t1,qp t2,Bool.and_true]
theorem zxt {a:List Int} (hg:gS a=true) {τ:Int->List Int} (hτ:okU a τ) {c:List TLit} (hl:c.length<=8) (hc: ∀x∈c,litOK a x=true):clOK a (apC τ c)=fitT τ (tms c):=by
 have: ∀c:List TLit,(∀x∈c,litOK a x=true)->(apC τ c).all (litOK a)=fitT τ (tms c):=by
  intro c
  induction c with
  | nil=>intro _;rfl
  | cons x r ih=>
   intro h;have e:tms (x::r)= [x.2.1,x.2.2.1]++tms r:=rfl;rw [e,apC,qK,qR,zIy hg hτ (h x (by simp)),fitT,List.all_append];have:=ih (fun y hy=>h y (by simp [hy]));rw [apC] at this;rw [this,fitT];simp
 rw [clOK,this c hc];simp [apC,hl]
theorem zkC {a:List Int} {x:TLit} (h:litOK a x=true) (k:Int):isT a (sd x k).1=true∧isT a (sd x k).2=true:=by
 obtain ⟨h1,h2⟩:=z8.1 h;unfold sd;split
 ·exact ⟨h1,h2⟩
 ·exact ⟨h2,h1⟩
theorem ztv (τ:Int->List Int) (c:List TLit) {i:Nat} (hi:i<c.length) (hi':i<(apC τ c).length) (k:Int):sd (apC τ c)[i] k=(apS τ (sd c[i] k).1,apS τ (sd c[i] k).2):=by
 simp only [apC,List.getElem_map];unfold sd;split<;>rfl
theorem zm {a:List Int} {c:List TLit}:clOK a c=true↔c.length<=8∧ ∀x∈c,litOK a x=true:=by simp [clOK]
theorem zbt {a:List Int} {x:TLit} (h:litOK a x=true):x.2.1.length<=100∧x.2.2.1.length<=100∧(∀n∈x.2.1,-12<=n)∧ ∀n∈x.2.2.1,-12<=n:=by
 obtain ⟨h1,h2⟩:=z8.1 h;have a1:=(zf.1 h1).1;have a2:=(zf.1 h2).1;exact ⟨by omega,by omega,(zbA h1).2,(zbA h2).2⟩
theorem zJi (c:List TLit) (i:Int) (n:Nat) (hn:n<c.length) (hi:i=n):zdW M c i true=some ((c[n].1,()),()):=by
 subst hi;apply zpP;simp only [zkl];rw [qb (by simp),qb (by simpa using hn),zd hn];simp
theorem zI2 (c:List TLit) (i:Int) (h: ¬(0<=i∧i<(c.length:Int))):zdW M c i true=some ((false,()),()):=by
 apply zpP;simp only [zkl];by_cases h0:0<=i
 ·rw [qb (by simpa using h0),qc (by simp;omega)]
 ·rw [qc (by simpa using h0)]
theorem zvk (l:List TLit) (i:Nat):l.take i++l.drop (i+1)=l.eraseIdx i:=(List.eraseIdx_eq_take_drop_succ l i).symm
set_option maxHeartbeats 1000000
theorem zF9 {a:List Int} (hg:gS a=true) {p r z:List Int} (hp:Tm a p) (hr:Tm a r): ∀(l:List Int) (k:Int),0<=k->sE a k (l++(p++z))=some []->sE a k (l++(r++z))=some []
 | [],k,hk,h=>by
  have pp:=Tm.pos hp;by_cases h0:k<=0
  ·exfalso
   have:sE a k (p++z)=some (p++z):=by
    cases hpz:p++z with
    | nil=>simp [sE,h0]
    | cons n t=>simp [sE,h0]
   rw [qC,this] at h;have h':=qh h;rw [List.append_eq_nil_iff] at h';rw [h'.1] at pp;simp at pp
  ·have e1:=zyH hg p 1 (k-1) z (by omega) (by omega) hp;have e2:=zyH hg r 1 (k-1) z (by omega) (by omega) hr;rw [show 1+(k-1)=k by omega] at e1 e2;rw [qC] at h ⊢;rw [e1] at h
   rw [e2];exact h
 | n::l,k,hk,h=>by
  rw [qZ] at h ⊢;simp only [sE] at h ⊢;split at h
  ·cases h
  ·rename_i h1;rw [qc h1];split at h
   ·cases h
   ·rename_i h2;rw [qc h2];have:=zsX hg n;exact zF9 hg hp hr l _ (by omega) h
theorem zw3 {a:List Int} (hg:gS a=true) {l p r z:List Int} (h:Tm a (l++(p++z))) (hp:Tm a p) (hr:Tm a r):Tm a (l++(r++z)):=zF9 hg hp hr l 1 (by omega) h
theorem zLH (s:TSign) (hg:gS s.1=true) (c d:List TLit) (hc:clOK s.1 c=true) (hd:clOK s.1 d=true) (i sc j ot p0:Int): ∃r,zbY M s c d (i,sc,j,ot,p0,())=some r∧zc5 M s c d (i,sc,j,ot,p0,())=some r∧((r.1.1= []∧r.1.2.1≠0∧r.1.2.1≠5)∨((r.1.2.1=0∨r.1.2.1=5)∧ ∃out,r.1.1=outC out∧SupOK s.1 c d (i,sc,j,ot,p0,()) out)):=by
 obtain ⟨c1,c2⟩:=zm.1 hc;obtain ⟨d1,d2⟩:=zm.1 hd;have fail: ∀k:Int,(k≠0∧k≠5)->zbY M s c d (i,sc,j,ot,p0,())=some (([],k,()),())->zc5 M s c d (i,sc,j,ot,p0,())=some (([],k,()),())-> ∃r,zbY M s c d (i,sc,j,ot,p0,())=some r∧zc5 M s c d (i,sc,j,ot,p0,())=some r∧((r.1.1= []∧r.1.2.1≠0∧r.1.2.1≠5)∨((r.1.2.1=0∨r.1.2.1=5)∧ ∃out,r.1.1=outC out∧SupOK s.1 c d (i,sc,j,ot,p0,()) out)):=fun k h0 h1 h2=>⟨_,h1,h2,.inl ⟨rfl,h0⟩⟩
 have lc:=zzF c (by omega) i sc;have ld:=zzF d (by omega) j ot;by_cases h1:0<=i∧i<(c.length:Int)
 case neg=>
  have e:(decide (0<=i)&&decide (i<(c.length:Int))&&is01 sc)=false:=by
   by_cases h0:0<=i
   ·rw [qp h0,qA (fun q=>h1 ⟨h0,q⟩)];rfl
   ·rw [qA h0];rfl
  rw [e] at lc;refine fail 1 (by decide) (zaJ _ _ _ _ ?_) (zcA _ _ _ _ ?_)
  ·simp only [zah,zI2 c i h1,qa];rfl
  ·simp only [zbN,lc,qa];rfl
 case pos=>
 obtain ⟨n,rfl⟩: ∃n:Nat,i=(n:Int):=⟨i.toNat,by omega⟩;have hn:n<c.length:=by omega
 rw [qp h1.1,qp h1.2,Bool.true_and,Bool.true_and] at lc;have hl:=zJi c n n hn rfl;have hci:=zd hn
 cases h2:c[n].1 with
 | false=>
  rw [h2] at hl;refine fail 1 (by decide) (zaJ _ _ _ _ ?_) (zcA _ _ _ _ ?_)
  ·simp only [zah,hl,qa];rfl
  ·simp only [zbN,lc,hci,h2,qa]
   cases is01 sc<;>rfl
 | true=>
 rw [h2] at hl;have si:=zxq sc
 cases h3:is01 sc with
 | false=>
  rw [h3] at lc si;refine fail 1 (by decide) (zaJ _ _ _ _ ?_) (zcA _ _ _ _ ?_)
  ·simp only [zah,hl,si,qa];rfl
  ·simp only [zbN,lc,qa];rfl
 | true=>
 rw [h3] at lc si;by_cases h4:0<=j∧j<(d.length:Int)
 case neg=>
  have e:(decide (0<=j)&&decide (j<(d.length:Int))&&is01 ot)=false:=by
   by_cases h0:0<=j
   ·rw [qp h0,qA (fun q=>h4 ⟨h0,q⟩)];rfl
   ·rw [qA h0];rfl
  rw [e] at ld;refine fail 1 (by decide) (zaJ _ _ _ _ ?_) (zcA _ _ _ _ ?_)
  ·simp only [zah,hl,si,qa,qm,qg,qe];by_cases h0:j<0
   ·rw [qb (by simpa using h0)]
   ·rw [qc (by simpa using h0),qb (by simp;omega)]
  ·simp only [zbN,lc,ld,hci,h2,qa,qm,qg,qe];rfl
 case pos=>
 obtain ⟨m,rfl⟩: ∃m:Nat,j=(m:Int):=⟨j.toNat,by omega⟩;have hm:m<d.length:=by omega
 rw [qp h4.1,qp h4.2,Bool.true_and,Bool.true_and] at ld;have hdj:=zd hm;have j0:decide ((m:Int)<0)=false:=by simp
 have j1:decide ((m:Int)>=(d.length:Int))=false:=by simp;omega
 have so:=zxq ot
 cases h5:is01 ot with
 | false=>
  rw [h5] at ld so;refine fail 1 (by decide) (zaJ _ _ _ _ ?_) (zcA _ _ _ _ ?_)
  ·simp only [zah,hl,si,so,j0,j1,qa,qm,qg,qe];rfl
  ·simp only [zbN,lc,ld,hci,h2,qa,qm,qg,qe];rfl
 | true=>
 rw [h5] at ld so
 have hot:ot=0∨ot=1:=by
  simp only [is01,qq,qt] at h5;omega
 have hdT:=zkC (d2 _ (qi hm)) ot;have hdl:=(zf.1 hdT.1).1;obtain ⟨sd1,sd2⟩:=zkm d[m] ot;by_cases h6:0<=p0∧p0<((sd d[m] ot).1.length:Int)
 case neg=>
  have e:(decide (0<=p0)&&decide (p0<=((sd d[m] ot).1.length:Int)-1))=false:=by
   by_cases h0:0<=p0
   ·rw [qp h0,qA (by omega)];rfl
   ·rw [qA h0];rfl
  refine fail 1 (by decide) (zaJ _ _ _ _ ?_) (zcA _ _ _ _ ?_)
  ·simp only [zah,hl,si,so,j0,j1,hdj,zg,sd1,qa,qm,qg,qe];by_cases h0:p0<0
   ·rw [qb (by simpa using h0)]
   ·rw [qc (by simpa using h0),qb (by simp;omega)]
  ·simp only [zbN,lc,ld,hci,hdj,h2,zg,sd2,qa,qm,qg,qe];rw [w64 (by omega) (by omega),zfw,e];rfl
 case pos=>
 obtain ⟨q,rfl⟩: ∃q:Nat,p0=(q:Int):=⟨p0.toNat,by omega⟩;have hq:q<(sd d[m] ot).1.length:=by omega
 have huq:=zd hq;have p0':decide ((q:Int)<0)=false:=by simp
 have p1':decide ((q:Int)>=((sd d[m] ot).1.length:Int))=false:=by simp;omega
 have inq:z6 M (q:Int) 0 (IntKind.i64.wrap (((sd d[m] ot).1.length:Int)-1))=some ((true,()),()):=by
  rw [w64 (by omega) (by omega),zfw,qp (by omega),qp (by omega)];rfl
 by_cases h7:(sd d[m] ot).1[q]<0
 case pos=>
  refine fail 1 (by decide) (zaJ _ _ _ _ ?_) (zcA _ _ _ _ ?_)
  ·simp only [zah,hl,si,so,j0,j1,hdj,zg,sd1,p0',p1',huq,qp h7,qa,qm,qg,qe,qf]
  ·simp only [zbN,lc,ld,hci,hdj,h2,zg,sd2,inq,huq,qp h7,qa,qm,qg,qe,qf]
 case neg=>
 have apI:=zEy s hg c d hc hd;have apS':=zEn s hg c d hc hd
 cases h8:(apartC c d).all (litOK s.1) with
 | false=>
  rw [h8] at apI apS';refine fail 2 (by decide) (zaJ _ _ _ _ ?_) (zcA _ _ _ _ ?_)
  ·simp only [zah,hl,si,so,j0,j1,hdj,zg,sd1,p0',p1',huq,qA h7,za,apI,qa,qm,qg,qe];rfl
  ·simp only [zbN,lc,ld,hci,hdj,h2,zg,sd2,inq,huq,qA h7,za,apS',qa,qm,qg,qe];rfl
 | true=>
 rw [h8,qb rfl] at apI apS';have e2: ∀x∈apartC c d,litOK s.1 x=true:=List.all_eq_true.1 h8;have hel:(apartC c d).length=d.length:=by simp [apartC]
 have hJ:m<(apartC c d).length:=by omega
 have hej:=zd hJ;obtain ⟨se1,se2⟩:=zkm (apartC c d)[m] ot;obtain ⟨sc1,sc2⟩:=zkm c[n] sc;have lt:((true,c[n].2.1,c[n].2.2):TLit)=c[n]:=by rw [<-h2]
 have sc2t:zbs M (true,c[n].2.1,c[n].2.2) sc=some (((sd c[n] sc).1,(sd c[n] sc).2,()),()):=by rw [lt];exact sc2
 have hul:(sd (apartC c d)[m] ot).1.length=(sd d[m] ot).1.length:=by
  simp only [apartC,List.getElem_map,sd,shl];split<;>simp
 have huT:=zkC (e2 _ (qi hJ)) ot;obtain ⟨hu1,hu2⟩:=zf.1 huT.1;obtain ⟨p,z,hpz,hp⟩:=Tm.at hg hu2 (show q<(sd (apartC c d)[m] ot).1.length by omega);obtain ⟨k1,k2⟩:=zsq hpz (Tm.pos hp);have prI:=zzx s hg _ (by omega) hpz hp;have prS:=zs6 s hg _ (by omega) hpz hp;have hcT:=zkC (c2 _ (qi hn)) sc;obtain ⟨hl1,hl2⟩:=zf.1 hcT.1;obtain ⟨hr1,hr2⟩:=zf.1 hcT.2;obtain ⟨ru,u1,u2,u3⟩:=zBU s hg (sd c[n] sc).1 p hcT.1 (zf.2 ⟨by omega,hp⟩)
 cases h9:ru.1.2.1 with
 | false=>
  refine fail 3 (by decide) (zaJ _ _ _ _ ?_) (zcA _ _ _ _ ?_)
  ·simp only [zah,hl,si,so,j0,j1,hdj,zg,sd1,p0',p1',huq,qA h7,za,apI,hci,hej,sc1,se1,prI,u1,h9,qa,qm,qg,qe];rfl
  ·simp only [zbN,lc,ld,hci,hdj,h2,zg,sd2,inq,huq,qA h7,za,apS',hej,sc2t,se2,prS,u2,h9,qa,qm,qg,qe];rfl
 | true=>
 obtain ⟨τ,hτ,ht,hun,_⟩:=u3 h9;have lτ: ∀v,(τ v).length<=100000:=fun v=>by have:=hτ.len v;omega
 have acI:=zpS τ lτ c (by omega) (fun x hx=>zbt (c2 x hx));have aeI:=zpS τ lτ (apartC c d) (by omega) (fun x hx=>zbt (e2 x hx));have acS:=zs9 τ lτ c (by omega) (fun x hx=>zbt (c2 x hx));have aeS:=zs9 τ lτ (apartC c d) (by omega) (fun x hx=>zbt (e2 x hx));obtain ⟨rpI,rpS⟩:=zBA s hg (sd (apartC c d)[m] ot).1 (sd c[n] sc).2 (by omega) (by omega) hpz hp;generalize hR:(sd (apartC c d)[m] ot).1.take q++(sd c[n] sc).2++z=R at rpI rpS;have hRl:R.length<=100:=by rw [<-hR];simp;omega
 have hRn: ∀x∈R,-12<=x:=by
  intro x hx;rw [<-hR] at hx;rcases qr.1 hx with hx | hx
  ·rcases qr.1 hx with hx | hx
   ·exact (zbA huT.1).2 x (List.mem_of_mem_take hx)
   ·exact (zbA hcT.2).2 x hx
  ·exact (zbA huT.1).2 x (List.mem_of_mem_drop (by rw [hpz];exact qB _ hx))
 have toI:=zsI _ _ (zeJ τ) lτ R hRl hRn;have toS:=zfZ _ _ (zeJ τ) lτ R hRl hRn;have vS:=zfZ _ _ (zeJ τ) lτ (sd (apartC c d)[m] ot).2 (by have:=(zf.1 huT.2).1;omega) (zbA huT.2).2;have lcb:(apC τ c).length=c.length:=by simp [apC]
 have leb:(apC τ (apartC c d)).length=(apartC c d).length:=by simp [apC]
 have hJ':m<(apC τ (apartC c d)).length:=by omega
 have hI':n<(apC τ c).length:=by omega
 have sdJ:=ztv τ (apartC c d) hJ hJ' ot;have sdI:=ztv τ c hn hI' sc;have L1:=zLY s ((n:Int),sc,(m:Int),ot,(q:Int),()) (sd (apartC c d)[m] ot).1 (sd c[n] sc).1 (sd c[n] sc).2 (sd (apartC c d)[m] ot).2 (tabS τ) (apC τ c) (apC τ (apartC c d)) (by omega) (apC τ c).length 0 [] (by omega) (by simp);rw [e0x,qk,qC] at L1;simp only at L1;rw [zzo _ 0 n (by omega),Nat.sub_zero] at L1
 have L2:=zLL s (n:Int) sc ot (q:Int) m (sd (apartC c d)[m] ot).1 (sd c[n] sc).1 (sd c[n] sc).2 (sd (apartC c d)[m] ot).2 (apS τ (sd (apartC c d)[m] ot).2) (apS τ R) (tabS τ) (apC τ c) (apC τ (apartC c d)) (by omega) hJ' hot ⟨R,rpS,toS⟩ vS (by
  have:(sd (apC τ (apartC c d))[m] ot).2=apS τ (sd (apartC c d)[m] ot).2:=by rw [sdJ]
  rw [<-this];exact ⟨fun e=>by rw [e];rfl,fun e=>by rw [e];rfl⟩) (apC τ (apartC c d)).length 0 ((apC τ c).eraseIdx n) (by omega) (by have:=List.length_eraseIdx_le (apC τ c) n;omega)
 rw [e0x,qk] at L2;generalize hN:newL ot (apC τ (apartC c d))[m] (apS τ R)=NL at L2;generalize hO:(apC τ c).eraseIdx n++(apC τ (apartC c d)).set m NL=OUT at L2
 have hOl:OUT.length=c.length-1+d.length:=by
  rw [<-hO,qL,List.length_set,List.length_eraseIdx_of_lt hI',lcb,leb,hel]
 have kc:=zxt hg hτ c1 c2;have ke:=zxt hg hτ (c:=apartC c d) (by omega) e2
 have smlc: ∀x∈apC τ c,smL x:=by
  intro x hx;obtain ⟨y,hy,rfl⟩:=qQ.1 hx;have:=zbt (c2 y hy);have b1:=zkp (σ:=τ) (fun v=>by have:=hτ.len v;omega) y.2.1;have b2:=zkp (σ:=τ) (fun v=>by have:=hτ.len v;omega) y.2.2.1;exact ⟨by simp only;omega,by simp only;omega⟩
 have smle: ∀x∈apC τ (apartC c d),smL x:=by
  intro x hx;obtain ⟨y,hy,rfl⟩:=qQ.1 hx;have:=zbt (e2 y hy);have b1:=zkp (σ:=τ) (fun v=>by have:=hτ.len v;omega) y.2.1;have b2:=zkp (σ:=τ) (fun v=>by have:=hτ.len v;omega) y.2.2.1;exact ⟨by simp only;omega,by simp only;omega⟩
 have smR':(apS τ R).length<=1048576:=by
  have:=zkp (σ:=τ) (fun v=>by have:=hτ.len v;omega) R;omega
 have smNL:smL NL:=by
  have:=smle _ (qi hJ');rw [<-hN];unfold newL;split
  ·exact ⟨smR',this.2⟩
  ·exact ⟨this.1,smR'⟩
 have smO: ∀x∈OUT,smL x:=by
  intro x hx;rw [<-hO] at hx;rcases qr.1 hx with hx | hx
  ·exact smlc x (List.mem_of_mem_eraseIdx hx)
  ·rcases List.mem_or_eq_of_mem_set hx with hx | rfl
   ·exact smle x hx
   ·exact smNL
 have ccb:=zeV s hg (apC τ c) (by omega) smlc;have ceb:=zeV s hg (apC τ (apartC c d)) (by omega) smle;have cout:=zeV s hg OUT (by omega) smO;rw [kc] at ccb;rw [ke] at ceb
 have big: ¬(fitT τ (tms c)=true∧fitT τ (tms (apartC c d))=true∧(apS τ R).length<=40∧c.length+d.length<=9)-> ∃r,zbY M s c d (n,sc,m,ot,q,())=some r∧zc5 M s c d (n,sc,m,ot,q,())=some r∧((r.1.1= []∧r.1.2.1≠0∧r.1.2.1≠5)∨((r.1.2.1=0∨r.1.2.1=5)∧ ∃out,r.1.1=outC out∧SupOK s.1 c d (n,sc,m,ot,q,()) out)):=by
  intro hbig;refine fail 4 (by decide) (zaJ _ _ _ _ ?_) (zcA _ _ _ _ ?_)
  ·simp only [zah,hl,si,so,j0,j1,hdj,zg,sd1,p0',p1',huq,qA h7,za,apI,hci,hej,sc1,se1,prI,u1,h9,ht,acI,aeI,rpI,toI,qa,qm,qg,qe]
   cases f1:fitT τ (tms c) with
   | false=>rfl
   | true=>
    cases f2:fitT τ (tms (apartC c d)) with
    | false=>rfl
    | true=>
     simp only [qf,qm,qg,qe];by_cases f3:(apS τ R).length<=40
     ·rw [qb f3];simp only [qm,qg,qe];have: ¬(c.length+d.length<=9):=fun f4=>hbig ⟨f1,f2,f3,f4⟩
      rw [w64 (x:=(c.length:Int)+((apartC c d).length:Int)) (by omega) (by omega),w64 (by omega) (by omega),qb (by simp;omega)]
     ·rw [qc f3];rfl
  ·simp only [zbN,lc,ld,hci,hdj,h2,zg,sd2,inq,huq,qA h7,za,apS',hej,sc2t,se2,prS,u2,h9,ht,acS,aeS,qa,qm,qg,qe];rw [L1];simp only [qa,qd,za];rw [L2];simp only [qa,qd,za,ccb,ceb,cout]
   cases f1:fitT τ (tms c) with
   | false=>rfl
   | true=>
    cases f2:fitT τ (tms (apartC c d)) with
    | false=>rfl
    | true=>
     have:clOK s.1 OUT=false:=by
      cases hco:clOK s.1 OUT with
      | false=>rfl
      | true=>
       exfalso;obtain ⟨o1,o2⟩:=zm.1 hco
       have hmem:NL∈OUT:=by
        rw [<-hO];exact qB _ (List.mem_set hJ' NL)
       have hNLok:=z8.1 (o2 NL hmem)
       have f3:(apS τ R).length<=40:=by
        rw [<-hN] at hNLok;unfold newL at hNLok;split at hNLok
        ·exact (zf.1 hNLok.1).1
        ·exact (zf.1 hNLok.2).1
       exact hbig ⟨f1,f2,f3,by omega⟩
     rw [this];rfl
 by_cases hok:fitT τ (tms c)=true∧fitT τ (tms (apartC c d))=true∧(apS τ R).length<=40∧c.length+d.length<=9
 case neg=>exact big hok
 case pos=>
 clear big;obtain ⟨f1,f2,f3,f4⟩:=hok;rw [f1] at ccb acI kc;rw [f2] at ceb aeI ke;rw [qb f3] at toI;have kc':=(zm.1 kc).2;have ke':=(zm.1 ke).2;have hTτ: ∀v,τ v≠ []->Tm s.1 (τ v):=fun v h=>(zf.1 (hτ.1 v h).1).2
 have hun2:apS τ (sd c[n] sc).1=apS τ p:=hun
 have hRT:Tm s.1 R:=by
  have hu':Tm s.1 ((sd (apartC c d)[m] ot).1.take q++(p++z)):=by
   rw [<-hpz,wa];exact hu2
  rw [<-hR,qE];exact zw3 hg hu' hp hr2
 have hNLok:litOK s.1 NL=true:=by
  have h0:=z8.1 (ke' _ (qi hJ'));have hY:isT s.1 (apS τ R)=true:=zf.2 ⟨f3,zkt hg hTτ hRT⟩;rw [<-hN];unfold newL;split
  ·exact z8.2 ⟨hY,h0.2⟩
  ·exact z8.2 ⟨h0.1,hY⟩
 have hOok: ∀x∈OUT,litOK s.1 x=true:=by
  intro x hx;rw [<-hO] at hx;rcases qr.1 hx with hx | hx
  ·exact kc' x (List.mem_of_mem_eraseIdx hx)
  ·rcases List.mem_or_eq_of_mem_set hx with hx | rfl
   ·exact ke' x hx
   ·exact hNLok
 have hO8:OUT.length<=8:=by omega
 have hclO:clOK s.1 OUT=true:=zm.2 ⟨hO8,hOok⟩;rw [hclO] at cout;have limO: ∀x∈OUT,x.2.1.length<=1000∧x.2.2.1.length<=1000:=fun x hx=>by have:=zbt (hOok x hx);omega
 have sup:SupOK s.1 c d (n,sc,m,ot,q,()) OUT:=⟨n,m,q,hn,hJ,τ,p,z,rfl,rfl,h2,hot,hτ,h8,hpz,hp,hun2,by rw [<-hO,<-hN,<-hR],hO8,hOok⟩;have tI:=zkC (kc' _ (qi hI')) sc;have tJ:=zkC (ke' _ (qi hJ')) ot;rw [sdI] at tI;rw [sdJ] at tJ;have b1:=zB5 _ _ (zbA tI.1) (zbA tI.2);have b2:=zB5 _ _ (zbA tJ.1) (zbA tJ.2);obtain ⟨x1,m1,m1'⟩:=zv2 (apC τ c) (by omega) (fun x hx=>⟨zbA (z8.1 (kc' x hx)).1,zbA (z8.1 (kc' x hx)).2⟩) n hI';obtain ⟨x2,m2,m2'⟩:=zv2 (apC τ (apartC c d)) (by omega) (fun x hx=>⟨zbA (z8.1 (ke' x hx)).1,zbA (z8.1 (ke' x hx)).2⟩) m hJ';have inO:=zzb OUT (by omega) limO;have outS:=(zle OUT (by omega) limO).2;simp only at tI tJ b1 b2;have lS:=zfZ _ _ (zeJ τ) lτ (sd c[n] sc).1 (by omega) (zbA hcT.1).2;have rS:=zfZ _ _ (zeJ τ) lτ (sd c[n] sc).2 (by omega) (zbA hcT.2).2;have uS:=zfZ _ _ (zeJ τ) lτ (sd (apartC c d)[m] ot).1 (by omega) (zbA huT.1).2;have cin:=zd hI';have cjn:=zd hJ';obtain ⟨z1,_⟩:=zkm (apC τ c)[n] sc;obtain ⟨z2,_⟩:=zkm (apC τ (apartC c d))[m] ot;rw [sdI] at z1;rw [sdJ] at z2;simp only at z1 z2;refine ⟨((outC OUT,(if (ovr (apS τ (sd c[n] sc).1) (apS τ (sd c[n] sc).2)&&(ovr (apS τ (sd (apartC c d)[m] ot).1) (apS τ (sd (apartC c d)[m] ot).2)&&(x1&&x2)))=true then 0 else 5),()),()),zaJ _ _ _ _ ?_,zcA _ _ _ _ ?_,.inr ⟨by split<;>simp,OUT,rfl,sup⟩⟩
 ·simp only [zah,hl,si,so,j0,j1,hdj,zg,sd1,p0',p1',huq,qA h7,za,apI,hci,hej,sc1,se1,prI,u1,h9,ht,acI,aeI,rpI,toI,qa,qm,qg,qe,qf];rw [w64 (x:=(c.length:Int)+((apartC c d).length:Int)) (by omega) (by omega),w64 (x:=(c.length:Int)+((apartC c d).length:Int)-1) (by omega) (by omega),qc (by simp;omega),qb (by omega),zb (by omega),qb (by omega)]
  have hcat:=p_cL [(apC τ c).take n,(apC τ c).drop (n+1),apC τ (apartC c d)] (by
   intro y hy;simp only [qz,List.not_mem_nil,or_false] at hy;rcases hy with rfl | rfl | rfl
   ·simp;omega
   ·simp;omega
   ·omega) (by simp) (by simp;omega)
  have hfl: [(apC τ c).take n,(apC τ c).drop (n+1),apC τ (apartC c d)].flatten=(apC τ c).eraseIdx n++apC τ (apartC c d):=by
   rw [<-zvk];simp
  rw [hfl] at hcat;simp only [qo,Int.toNat_zero,qk,List.take_length];rw [hcat];have hel':((apC τ c).eraseIdx n).length=c.length-1:=by rw [List.length_eraseIdx_of_lt hI',lcb]
  have hat:IntKind.i64.wrap (IntKind.i64.wrap (((apC τ c).length:Int)-1)+(m:Int))=((c.length-1+m:Nat):Int):=by
   rw [w64 (x:=((apC τ c).length:Int)-1) (by omega) (by omega),w64 (by omega) (by omega)];omega
  have hget:((apC τ c).eraseIdx n++apC τ (apartC c d))[c.length-1+m]?=some (apC τ (apartC c d))[m]:=by
   rw [List.getElem?_append_right (by omega),hel',Nat.add_sub_cancel_left,qu hJ']
  have hset: ∀y,((apC τ c).eraseIdx n++apC τ (apartC c d)).set (c.length-1+m) y=(apC τ c).eraseIdx n++(apC τ (apartC c d)).set m y:=by
   intro y;rw [List.set_append_right _ _ (by omega),hel',Nat.add_sub_cancel_left]
  simp only [qa,hat,qo]
  have hlt:0<=((c.length-1+m:Nat):Int)∧((c.length-1+m:Nat):Int)<(((apC τ c).eraseIdx n++apC τ (apartC c d)).length:Int):=by
   rw [qL,hel'];omega
  have tail: ∀O:List TLit,O=OUT->((idx (apC τ c) (n:Int)).bind fun x22=>(zaE M (x22.1,x22.2.1,x22.2.2.1,()) sc).bind fun r23=>(idx (apC τ (apartC c d)) (m:Int)).bind fun x24=>(zaE M (x24.1,x24.2.1,x24.2.2.1,()) ot).bind fun r25=>(zfm M r23.1.1 r23.1.2.1).bind fun r26=>if (!r26.1.1)=true then (zfm M r25.1.1 r25.1.2.1).bind fun r27=>if (!r27.1.1)=true then (zcT M (apC τ c) (n:Int)).bind fun r28=>if r28.1.1=true then (zcT M (apC τ (apartC c d)) (m:Int)).bind fun r29=>(zbu M O r29.1.1).bind fun r30=>some ((r30.1.1,r30.1.2.1,()),()) else (zbu M O false).bind fun r31=>some ((r31.1.1,r31.1.2.1,()),()) else (zbu M O false).bind fun r32=>some ((r32.1.1,r32.1.2.1,()),()) else (zbu M O false).bind fun r33=>some ((r33.1.1,r33.1.2.1,()),()))=some (((outC OUT,(if (ovr (apS τ (sd c[n] sc).1) (apS τ (sd c[n] sc).2)&&(ovr (apS τ (sd (apartC c d)[m] ot).1) (apS τ (sd (apartC c d)[m] ot).2)&&(x1&&x2)))=true then 0 else 5),()),())):=by
   intro O hO';subst hO';rw [cin,cjn];simp only [qa,zg,z1,z2,b1.1,b2.1,m1,m2,Bool.not_not,inO];cases ovr (apS τ (sd c[n] sc).1) (apS τ (sd c[n] sc).2)<;>cases ovr (apS τ (sd (apartC c d)[m] ot).1) (apS τ (sd (apartC c d)[m] ot).2)<;>cases x1<;>cases x2<;>rfl
  rcases hot with rfl | rfl
  ·rw [qb (by decide),qb hlt,hget];simp only [qa,qd,hset];exact tail _ (by rw [<-hO,<-hN];rfl)
  ·rw [qc (by decide),qb hlt,hget];simp only [qa,qd,hset];exact tail _ (by rw [<-hO,<-hN];rfl)
 ·simp only [zbN,lc,ld,hci,hdj,h2,zg,sd2,inq,huq,qA h7,za,apS',hej,sc2t,se2,prS,u2,h9,ht,acS,aeS,qa,qm,qg,qe];rw [L1];simp only [qa,qd,za];rw [L2];simp only [qa,qd,za,ccb,ceb,cout,qm,qg,qe];rw [lS];simp only [qa];rw [rS];simp only [qa,b1.2]
  cases ovr (apS τ (sd c[n] sc).1) (apS τ (sd c[n] sc).2) with
  | false=>
   simp only [qO,qf,outS,qa];rfl
  | true=>
   simp only [qm,qg,qe];rw [uS];simp only [qa];rw [vS];simp only [qa,b2.2]
   cases ovr (apS τ (sd (apartC c d)[m] ot).1) (apS τ (sd (apartC c d)[m] ot).2) with
   | false=>
    simp only [qO,qf,outS,qa];rfl
   | true=>
    simp only [qm,qg,qe,m1',m2',qa]
    cases x1 with
    | false=>simp only [qO,qf,outS,qa];rfl
    | true=>
     cases x2 with
     | false=>simp only [qm,qO,qg,qe,qf,outS,qa];rfl
     | true=>simp only [qm,qg,qe,outS,qa];rfl
def updS (σ:Int->List Int) (v:Int) (u:List Int):Int->List Int:=fun w=>if w=v then u else σ w
theorem zCg (σ:Int->List Int) {v:Int} (v0:0<=v) (v1:v<=11) (u:List Int):(tabS σ).set v.toNat u=tabS (updS σ v u):=by
 rw [tabS,zuZ _ (by omega)];refine zer fun k hk=>?_
 unfold updS;by_cases e:k=v.toNat
 ·rw [qb e,qb (by omega)]
 ·rw [qc e,qc (by omega)]
theorem zIm {σ:Int->List Int} {v:Int} {u:List Int} (h:σ v=u):updS σ v u=σ:=by
 funext w;unfold updS;split
 ·rename_i e;rw [e,h]
 ·rfl
def okB (a:List Int) (σ:Int->List Int):Prop:= ∀v,σ v≠ []->isT a (σ v)=true
theorem okB.upd {a:List Int} {σ:Int->List Int} (h:okB a σ) (v:Int) {u:List Int} (hu:isT a u=true):okB a (updS σ v u):=by
 intro w hw;unfold updS at hw ⊢;split
 ·exact hu
 ·rename_i e;rw [qc e] at hw;exact h w hw
theorem okB.len {a:List Int} {σ:Int->List Int} (h:okB a σ) (v:Int):(σ v).length<=40:=by
 by_cases e:σ v= []
 ·rw [e];simp
 ·exact (zf.1 (h v e)).1
theorem zIE {a:List Int} {k:Int} {n:Int} {t:List Int} (h:sE a k (n::t)=some []):0<k∧ ¬badN a n∧sE a (k-1+ar a n) t=some []:=by
 simp only [sE] at h;split at h
 ·cases h
 ·split at h
  ·cases h
  ·rename_i h1 h2;exact ⟨by omega,h2,h⟩
theorem zLo {a:List Int} {k:Int} {t:List Int} {j:Nat} (hk:0<k) (h:sE a k (t.drop j)=some []):j<t.length:=by
 rcases Nat.lt_or_ge j t.length with q | q
 ·exact q
 ·rw [List.drop_eq_nil_of_le q,sE,qc (by omega)] at h;cases h
def MatB (σ τ:Int->List Int) (p t:List Int):Prop:=(∀v,σ v≠ []->τ v=σ v)∧(∀n∈p,n<0->τ (-1-n)≠ [])∧apS τ p=t
theorem MatB.pos {σ τ:Int->List Int} {p t:List Int} {n:Int} (h:MatB σ τ p t) (h0:0<=n):MatB σ τ (n::p) (n::t):=by
 refine ⟨h.1,fun m hm hm0=>?_,?_⟩
 ·rcases qz.1 hm with rfl | hm
  ·omega
  ·exact h.2.1 m hm hm0
 ·rw [zdg,zmM h0,h.2.2];rfl
theorem MatB.var {σ τ:Int->List Int} {p t u:List Int} {n:Int} (h:MatB σ τ p t) (h0:n<0) (hu:u≠ []) (e:τ (-1-n)=u):MatB σ τ (n::p) (u++t):=by
 refine ⟨h.1,fun m hm hm0=>?_,?_⟩
 ·rcases qz.1 hm with rfl | hm
  ·rw [e];exact hu
  ·exact h.2.1 m hm hm0
 ·rw [zdg,zis h0 (by rw [e];exact hu),e,h.2.2]
theorem MatB.upd {σ τ:Int->List Int} {p t u:List Int} {n:Int} (h:MatB (updS σ (-1-n) u) τ p t) (h0:n<0) (hu:u≠ []) (e:σ (-1-n)= []):MatB σ τ (n::p) (u++t):=by
 have e2:updS σ (-1-n) u (-1-n)=u:=by simp only [updS,qb]
 refine MatB.var ⟨fun v hv=>?_,h.2⟩ h0 hu ((h.1 (-1-n) (by rw [e2];exact hu)).trans e2);have hne:v≠ -1-n:=fun q=>hv (by rw [q];exact e)
 have e3:updS σ (-1-n) u v=σ v:=by simp only [updS,qc hne]
 exact (h.1 v (by rw [e3];exact hv)).trans e3
section
variable (s : TSign) (hg : gS s.1 = true) (p t : List Int) (hp : p.length <= 1000) (ht : t.length <= 40)
include hg hp ht
theorem zFQ: ∀(m i j:Nat) (k:Int) (σ:Int->List Int),i+m=p.length->j<=t.length->0<=k->sE s.1 k (p.drop i)=some []->sE s.1 k (t.drop j)=some []->okB s.1 σ->
  (zbv M (tabS σ) t s j p p.length i=some (.inr failU)∧zbz M (tabS σ) p t s i j=some (.inr failU))∨
  ∃τ,okB s.1 τ∧MatB σ τ (p.drop i) (t.drop j)∧zbv M (tabS σ) t s j p p.length i=some (.inl (tabS τ,t,(t.length:Int),()))∧zbz M (tabS σ) p t s i j=some (.inl (tabS τ,())):=by
 intro m
 induction m with
 | zero=>
  intro i j k σ hi hj hk h1 h2 ho;obtain rfl:i=p.length:=by omega
  rw [qG,sE] at h1
  have k0:k=0:=by
   split at h1
   ·omega
   ·cases h1
  subst k0;rw [zwY] at h2;have h3:t.length<=j:=List.drop_eq_nil_iff.1 (qh h2);obtain rfl:j=t.length:=by omega
  refine .inr ⟨σ,ho,⟨fun _ _=>rfl,by simp,by simp [apS]⟩,zbi _ _ _ _ _ _ _ ?_,zch _ _ _ _ _ _ ?_⟩
  ·simp only [zaz];rw [qc (by simp)]
  ·simp only [zbm]
   rw [qc (by simp)]
 | succ m ih=>
  intro i j k σ hi hj hk h1 h2 ho;have hip:i<p.length:=by omega
  rw [qj hip] at h1;obtain ⟨k1,hb,h1'⟩:=zIE h1;have hjt:=zLo k1 h2;have hin:decide ((i:Int)<(p.length:Int))=true:=by simp;omega
  have hge:decide ((j:Int)>=(t.length:Int))=false:=by simp;omega
  by_cases h0:0<=p[i]
  ·have hx:decide (p[i]>=0)=true:=by simpa using h0
   by_cases e:t[j]=p[i]
   ·have h2':=h2;rw [qj hjt,e] at h2';obtain ⟨_,_,h2''⟩:=zIE h2'
    have hI: ∀X,zbv M (tabS σ) t s ((j+1:Nat):Int) p p.length ((i+1:Nat):Int)=X->zaz M (tabS σ) t s j p p.length i=X:=by
     intro X hX;simp only [zaz,hin,hge,zd hip,zd hjt,hx,e,bne_self_eq_false,qa,qd,qf,qe,qg,za];rw [zb (by omega),zb (by omega)];exact hX
    have hS: ∀X,zbz M (tabS σ) p t s ((i+1:Nat):Int) ((j+1:Nat):Int)=X->zbm M (tabS σ) p t s i j=X:=by
     intro X hX;simp only [zbm,hin,zd hip,zd hjt,hx,e,bne_self_eq_false,qa,qf,qe,qg,za];rw [zb (by omega),zb (by omega)];exact hX
    rcases ih (i+1) (j+1) _ σ (by omega) (by omega) (by have:=zsX hg p[i];omega) h1' h2'' ho with ⟨a1,a2⟩ | ⟨τ,a0,am,a1,a2⟩
    ·exact .inl ⟨zbi _ _ _ _ _ _ _ (hI _ a1),zch _ _ _ _ _ _ (hS _ a2)⟩
    ·exact .inr ⟨τ,a0,by rw [qj hip,qj hjt,e];exact am.pos h0,zbi _ _ _ _ _ _ _ (hI _ a1),zch _ _ _ _ _ _ (hS _ a2)⟩
   ·refine .inl ⟨zbi _ _ _ _ _ _ _ ?_,zch _ _ _ _ _ _ ?_⟩
    ·have ne:(t[j] !=p[i])=true:=by simpa using e
     simp only [zaz,hin,hge,zd hip,zd hjt,hx,ne,qa,qd,qF,qY,qf,qe,qg];rfl
    ·have ne:(p[i] !=t[j])=true:=by simpa using fun q=>e q.symm
     simp only [zbm,hin,zd hip,zd hjt,hx,ne,qa,qf,qe,qg];rfl
  ·have hx:decide (p[i]>=0)=false:=by simp;omega
   have hn: -12<=p[i]:=by unfold badN at hb;omega
   have har:ar s.1 p[i]=0:=by unfold ar;rw [qb (by omega)]
   rw [har,Int.add_zero] at h1';obtain ⟨u,x,hux,hu,hx2⟩:=zA5 hg (t.drop j) 1 (k-1) [] (by omega) (by omega) (by rw [show 1+(k-1)=k by omega];exact h2);have hup:=Tm.pos hu;obtain ⟨c1,c2⟩:=zsq hux hup;have hd:t.drop (j+u.length)=x:=by rw [<-List.drop_drop,hux,List.drop_left]
   have hend:zes M s t j=some ((((j+u.length:Nat):Int),()),()):=by
    apply zrj;simp only [zkK,za,zze s hg t (by omega) u x j 1 hux (by omega) (by omega) (by omega) hu,qa,qd]
   have hpart:=zs6 s hg t (by omega) hux hu;have hv:IntKind.i64.wrap (-1-p[i])= -1-p[i]:=w64 (by omega) (by omega);have hget:(tabS σ)[(-1-p[i]).toNat]?=some (σ (-1-p[i])):=(zeJ σ).2 _ (by omega) (by omega);have hvr:0<= -1-p[i]∧ -1-p[i]<((tabS σ).length:Int):=by rw [zd3];omega
   have htk:(t.take (((j+u.length:Nat):Int)).toNat).drop ((j:Int)).toNat=u:=by rw [qo,qo];exact c2
   have huT:isT s.1 u=true:=zf.2 ⟨by omega,hu⟩;have hl40:=ho.len (-1-p[i]);by_cases e:σ (-1-p[i])= []
   ·have hI: ∀X,zbv M (tabS (updS σ (-1-p[i]) u)) t s ((j+u.length:Nat):Int) p p.length ((i+1:Nat):Int)=X->zaz M (tabS σ) t s j p p.length i=X:=by
     intro X hX;simp only [zaz,hin,hge,zd hip,hx,za,hend,hv,hget,e,qa,qf,qe,qg];rw [qb (by omega),qb hvr];simp only [htk,qa];rw [qb (by rfl),qb (by omega),qb hvr];simp only [qa,qd,za];rw [zb (by omega),zCg σ (by omega) (by omega)];exact hX
    have hS: ∀X,zbz M (tabS (updS σ (-1-p[i]) u)) p t s ((i+1:Nat):Int) ((j+u.length:Nat):Int)=X->zbm M (tabS σ) p t s i j=X:=by
     intro X hX;simp only [zbm,hin,zd hip,hx,za,hpart,hv,hget,e,qa,qf,qe,qg];rw [qb hvr,qc (by simp),qb hvr,zb (by omega),zCg σ (by omega) (by omega),w64 (by omega) (by omega)];exact hX
    rcases ih (i+1) (j+u.length) _ (updS σ (-1-p[i]) u) (by omega) (by omega) (by omega) h1' (by rw [hd];exact hx2) (ho.upd _ huT) with ⟨a1,a2⟩ | ⟨τ,a0,am,a1,a2⟩
    ·exact .inl ⟨zbi _ _ _ _ _ _ _ (hI _ a1),zch _ _ _ _ _ _ (hS _ a2)⟩
    ·exact .inr ⟨τ,a0,by rw [qj hip,hux];rw [hd] at am;exact am.upd (by omega) (fun q=>by rw [q] at hup;simp at hup) e,zbi _ _ _ _ _ _ _ (hI _ a1),zch _ _ _ _ _ _ (hS _ a2)⟩
   ·have hne:((((σ (-1-p[i])).length:Nat):Int)==0)=false:=by
     have:=qX.2 e;simp;omega
    have hgt:decide ((((σ (-1-p[i])).length:Nat):Int)>0)=true:=by
     have:=qX.2 e;simp;omega
    by_cases eq:σ (-1-p[i])=u
    ·have hI: ∀X,zbv M (tabS σ) t s ((j+u.length:Nat):Int) p p.length ((i+1:Nat):Int)=X->zaz M (tabS σ) t s j p p.length i=X:=by
      intro X hX;simp only [zaz,hin,hge,zd hip,hx,za,hend,hv,hget,hne,qa,qf,qe,qg];rw [qb (by omega),qb hvr];simp only [htk,qa,hne,zna (σ (-1-p[i])) u (by omega),qp eq,qm,qg,qe,qd,za];rw [zb (by omega)];exact hX
     have hS: ∀X,zbz M (tabS σ) p t s ((i+1:Nat):Int) ((j+u.length:Nat):Int)=X->zbm M (tabS σ) p t s i j=X:=by
      intro X hX;simp only [zbm,hin,zd hip,hx,za,hpart,hv,hget,qa,qf,qe,qg];rw [qb hvr,qb hgt,qb hvr,zlU (σ (-1-p[i])) u (by omega)];simp only [qa,qp eq,qm,qg,qe];rw [qb hvr,zb (by omega),zCg σ (by omega) (by omega),zIm eq,w64 (by omega) (by omega)];exact hX
     rcases ih (i+1) (j+u.length) _ σ (by omega) (by omega) (by omega) h1' (by rw [hd];exact hx2) ho with ⟨a1,a2⟩ | ⟨τ,a0,am,a1,a2⟩
     ·exact .inl ⟨zbi _ _ _ _ _ _ _ (hI _ a1),zch _ _ _ _ _ _ (hS _ a2)⟩
     ·exact .inr ⟨τ,a0,by rw [qj hip,hux];rw [hd] at am;exact am.var (by omega) (fun q=>by rw [q] at hup;simp at hup) (by rw [am.1 _ e,eq]),zbi _ _ _ _ _ _ _ (hI _ a1),zch _ _ _ _ _ _ (hS _ a2)⟩
    ·refine .inl ⟨zbi _ _ _ _ _ _ _ ?_,zch _ _ _ _ _ _ ?_⟩
     ·simp only [zaz,hin,hge,zd hip,hx,za,hend,hv,hget,hne,qa,qf,qe,qg];rw [qb (by omega),qb hvr];simp only [htk,qa,hne,zna (σ (-1-p[i])) u (by omega),qA eq,qO,qg,qe,qf,qY,qF];rfl
     ·simp only [zbm,hin,zd hip,hx,za,hpart,hv,hget,qa,qf,qe,qg];rw [qb hvr,qb hgt,qb hvr,zlU (σ (-1-p[i])) u (by omega)];simp only [qa,qA eq,qO,qf];rfl
theorem zAI (σ:Int->List Int) (hσ:okB s.1 σ) (hpT:Tm s.1 p) (htT:Tm s.1 t):(zcy M s (tabS σ) p t=some failU∧zd2 M s (tabS σ) p t=some failU)∨
  ∃τ,okB s.1 τ∧MatB σ τ p t∧zcy M s (tabS σ) p t=some ((tabS τ,true,()),())∧zd2 M s (tabS σ) p t=some ((tabS τ,true,()),()):=by
 have h:=zFQ s hg p t hp ht p.length 0 0 1 σ (by omega) (by omega) (by omega) hpT htT hσ;rw [e0x,qk,qk] at h;rcases h with ⟨a1,a2⟩ | ⟨τ,a0,am,a1,a2⟩
 ·refine .inl ⟨zur _ _ _ _ ?_,zw6 _ _ _ _ ?_⟩
  ·simp only [zln,za,a1,qa,qF];rw [qb (by rw [zd3];omega)]
  ·simp only [zow,za,a2,qa,qF]
 ·refine .inr ⟨τ,a0,am,zur _ _ _ _ ?_,zw6 _ _ _ _ ?_⟩
  ·simp only [zln,za,a1,qa,qd,wc];rw [qb (by rw [zd3];omega)]
  ·simp only [zow,za,a2,qa,qd]
theorem zK1 (hpT:Tm s.1 p) (htT:Tm s.1 t):(zcy M s (List.replicate 12 []) p t=some failU∧zd2 M s (List.replicate 12 []) p t=some failU)∨
  ∃τ,okB s.1 τ∧MatB (fun _=> []) τ p t∧zcy M s (List.replicate 12 []) p t=some ((tabS τ,true,()),())∧zd2 M s (List.replicate 12 []) p t=some ((tabS τ,true,()),()):=
 zAI s hg p t hp ht (fun _=> []) (fun v h=>absurd rfl h) hpT htT
end
def bareS (σ:Int->List Int) (v:Int):List Int:=if σ v= [-1-v] then [] else σ v
theorem zJP (σ:Int->List Int) (T:List Int):apS (bareS σ) T=apS σ T:=by
 have:rp (bareS σ)=rp σ:=by
  funext n;unfold rp bareS;by_cases e:σ (-1-n)= [-1-(-1-n)]
  ·rw [qb e,e,qc (by simp)];by_cases h:n<0
   ·rw [qb ⟨h,by simp⟩,show -1-(-1-n)=n by omega]
   ·rw [qc (fun q=>h q.1)]
  ·rw [qc e]
 unfold apS;rw [this]
theorem zGR (x:List Int) (k:Nat) (hk:k<=1000) (hx:x.length<=1000):znC M x k=some ((decide (x= [-1-(k:Int)]),()),()):=by
 apply zBn;simp only [zrI]
 match x,hx with
 | [],_=>rfl
 | [y],_=>
  rw [qb (by simp),show idx [y] 0=some y from rfl,w64 (by omega) (by omega)];simp only [qa];congr 3;by_cases e:y= -1-(k:Int)
  ·simp [e]
  ·have:(y== -1-(k:Int))=false:=by simpa using e
   rw [this]
   simp [e]
 | a::b::r,h=>
  rw [qc (by simp;omega)];simp
theorem zGH (σ:Int->List Int) (hσ: ∀v,(σ v).length<=1000): ∀(j k:Nat),k+j=12->zlX M (tab fun i=>if i<k then bareS σ (i:Int) else σ (i:Int)) 12 k=some (.inl (tabS (bareS σ),())):=by
 intro j
 induction j with
 | zero=>
  intro k hk;obtain rfl:k=12:=by omega
  apply zv8;simp only [znJ];rw [qc (by simp)]
  congr 3
 | succ j ih=>
  intro k hk;have h1:k<12:=by omega
  apply zv8;simp only [znJ,zd3];rw [qb (by simp;omega),qb (by omega),qo,zlM _ h1];simp only [qa,Nat.lt_irrefl,qe];rw [zGR _ k (by omega) (hσ _)];simp only [qa];by_cases e:σ (k:Int)= [-1-(k:Int)]
  ·rw [qb (by simpa using e),qb (by omega),zuZ _ h1];simp only [qa,qd];rw [zb (by omega),<-ih (k+1) (by omega)];congr 1;refine zer fun i hi=>?_
   by_cases e1:i=k
   ·subst e1;rw [qb rfl,qb (by omega),bareS,qb e]
   ·by_cases e2:i<k
    ·rw [qc e1,qb e2,qb (by omega)]
    ·rw [qc e1,qc e2,qc (by omega)]
  ·rw [qc (by simpa using e)];simp only [qa,qd];rw [zb (by omega),<-ih (k+1) (by omega)];congr 1;refine zer fun i hi=>?_
   by_cases e1:i=k
   ·subst e1;rw [qc (by omega),qb (by omega),bareS,qc e]
   ·by_cases e2:i<k
    ·rw [qb e2,qb (by omega)]
    ·rw [qc e2,qc (by omega)]
theorem zIM (σ:Int->List Int) (hσ: ∀v,(σ v).length<=1000):zpd M (tabS σ)=some ((tabS (bareS σ),()),()):=by
 apply zFs;have h:=zGH σ hσ 12 0 (by omega);have e:(tab fun i=>if i<0 then bareS σ (i:Int) else σ (i:Int))=tabS σ:=zer fun i hi=>qc (by omega)
 rw [e,e0x] at h;simp only [zws,zd3];rw [show ((12:Nat):Int)=12 from rfl,h];simp only [qa,qd]
def failR:(List Int×Bool×Unit)×Unit:=(([],false,()),())
theorem zMD (t out:List Int) (ht:t.length<=1000) (ho:out.length<=4000): ∀k i:Nat,i+k=out.length->zcP M t out out.length i=some (if (out.drop i).all (fun n=>decide (0<=n) || decide (n∈t))=true then .inl (out,()) else .inr failR):=by
 intro k
 induction k with
 | zero=>
  intro i hi;obtain rfl:i=out.length:=by omega
  apply zol;simp only [zf1];rw [qc (by simp),qG]
  rfl
 | succ k ih=>
  intro i hi;have h1:i<out.length:=by omega
  apply zol;simp only [zf1];rw [qb (by simpa using h1),qb (by omega),qo,qu h1,qj h1,qR];simp only [qa];by_cases h0:0<=out[i]
  ·rw [qc (by simp;omega),zb (by omega),ih (i+1) (by omega),qp h0,Bool.true_or,Bool.true_and]
  ·rw [qb (by simp;omega),zuS t out[i] (by omega),qA h0,Bool.false_or];simp only [qa];by_cases hm:out[i]∈t
   ·rw [qp hm,qc (by simp),zb (by omega),ih (i+1) (by omega),Bool.true_and]
   ·rw [qA hm,qb (by rfl),Bool.false_and,qc (by simp)];rfl
theorem zMA (t out V:List Int) (ht:t.length<=1000) (hV:V.length<=100000) (hv: ∀v∈V,0<=v∧v<=1000): ∀k i:Nat,i+k=V.length->zk1 M t out V V.length i=some (if (V.drop i).all (fun v=>decide (-1-v∈t))=true then .inl (t,out,()) else .inr failR):=by
 intro k
 induction k with
 | zero=>
  intro i hi;obtain rfl:i=V.length:=by omega
  apply zu2;simp only [zmA];rw [qc (by simp),qG]
  rfl
 | succ k ih=>
  intro i hi;have h1:i<V.length:=by omega
  have hb:=hv _ (qi h1);apply zu2;simp only [zmA];rw [qb (by simpa using h1),qb (by omega),qo,qu h1,qj h1,qR];simp only [qa];rw [w64 (by omega) (by omega),zEG t (-1-V[i]) ht];simp only [qa];by_cases hm: -1-V[i]∈t
  ·rw [qp hm,qc (by simp),zb (by omega),ih (i+1) (by omega),Bool.true_and]
  ·rw [qA hm,qb (by rfl),Bool.false_and,qc (by simp)];rfl
theorem zH8 (s:TSign) (hg:gS s.1=true) (t l r:List Int) (ht:isT s.1 t=true) (hl:isT s.1 l=true) (hr:isT s.1 r=true): ∃(ok:Bool) (o1 o2:List Int),zdc M s t l r=some ((o1,ok,()),())∧zm8 M s t l r=some ((o2,ok,()),())∧(ok=true->o1=o2∧isT s.1 o1=true∧gtT t o1=true∧ ∃τ,okB s.1 τ∧apS τ l=t∧o1=apS τ r):=by
 obtain ⟨t1,t2⟩:=zf.1 ht;obtain ⟨l1,l2⟩:=zf.1 hl;obtain ⟨r1,r2⟩:=zf.1 hr;have h12:0<=(12:Int)∧((24:Nat):Int)*(12:Int)<=140737488355328∧True:=⟨by decide,by decide,trivial⟩;have h12n:(12:Int).toNat=12:=rfl;rcases zK1 s hg l t (by omega) t1 l2 t2 with ⟨a1,a2⟩ | ⟨τ,a0,am,a1,a2⟩
 ·refine ⟨false,[],[],zjT _ _ _ _ ?_,zAh _ _ _ _ ?_,fun h=>by cases h⟩
  ·simp only [zeA,h12n,za,a1,qa];rw [qb h12];rfl
  ·simp only [zsW,h12n,za,a2,qa];rw [qb h12];rfl
 ·have lτ:=fun v=>a0.len v
  have hTτ: ∀v,τ v≠ []->Tm s.1 (τ v):=fun v h=>(zf.1 (a0 v h)).2
  have hT:Tm s.1 (apS τ r):=zkt hg hTτ r2;have hlen:=zkp (σ:=τ) (fun v=>by have:=lτ v;omega) r;have hnum:=zti (apS τ r) 1 hT;have hb:=zIM τ (fun v=>by have:=lτ v;omega)
  have lb: ∀v,(bareS τ v).length<=100000:=fun v=>by
   unfold bareS;split
   ·simp
   ·have:=lτ v;omega
  have aI:=zsI _ _ (zeJ (bareS τ)) lb r (by omega) (zbA hr).2;rw [zJP] at aI;have aS:=zfZ _ _ (zeJ τ) (fun v=>by have:=lτ v;omega) r (by omega) (zbA hr).2;have vS:=zwa (apS τ r) (by omega) (fun n hn=>by have:=(hnum n hn).1;omega)
  have hm: ∀v,v∈(negs (apS τ r)).foldl putN []↔0<=v∧ -1-v∈apS τ r:=by
   intro v;rw [zm9,zAL];simp
  have hVl:((negs (apS τ r)).foldl putN []).length<=100000:=by
   have:=zpM (negs (apS τ r)) [];have:=zxu (apS τ r);simp at *; omega
  have hVv: ∀v∈(negs (apS τ r)).foldl putN [],0<=v∧v<=1000:=by
   intro v h;have h:=(hm v).1 h;have:=(hnum _ h.2).1;omega
  have lS:=zMA t (apS τ r) _ (by omega) hVl hVv _ 0 (by rw [qJ]);rw [e0x,qk] at lS;have gS':=zsO t (apS τ r) (zbA ht) ⟨by omega,fun n hn=>(hnum n hn).1⟩
  have hall:((negs (apS τ r)).foldl putN []).all (fun v=>decide (-1-v∈t))=(apS τ r).all (fun n=>decide (0<=n) || decide (n∈t)):=by
   rw [Bool.eq_iff_iff];simp only [List.all_eq_true,qt,wb];constructor
   ·intro q n hn;by_cases h0:0<=n
    ·exact .inl h0
    ·have:=q (-1-n) ((hm _).2 ⟨by omega,by rw [show -1-(-1-n)=n by omega];exact hn⟩);rw [show -1-(-1-n)=n by omega] at this;exact .inr this
   ·intro q v hv;have h:=(hm v).1 hv;rcases q _ h.2 with h0 | h0
    ·omega
    ·exact h0
  rw [hall] at lS
  have hS:zm8 M s t l r=some (if (apS τ r).all (fun n=>decide (0<=n) || decide (n∈t))=true then ((apS τ r,gtT t (apS τ r),()),()) else failR):=by
   apply zAh;simp only [zsW,h12n,za,a2,aS,vS,lS,qa,qm,qg,qe];rw [qb h12];split
   ·simp only [qd,gS',qa]
   ·rfl
  have failI:zdc M s t l r=some (([],false,()),())->gtT t (apS τ r)=false-> ∃(ok:Bool) (o1 o2:List Int),zdc M s t l r=some ((o1,ok,()),())∧zm8 M s t l r=some ((o2,ok,()),())∧(ok=true->o1=o2∧isT s.1 o1=true∧gtT t o1=true∧ ∃τ,okB s.1 τ∧apS τ l=t∧o1=apS τ r):=by
   intro h1 h2;rw [h2] at hS;split at hS
   ·exact ⟨false,[],_,h1,hS,fun h=>by cases h⟩
   ·exact ⟨false,[],[],h1,hS,fun h=>by cases h⟩
  by_cases h40:(apS τ r).length<=40
  ·rw [qb h40] at aI;have gI:=zsV t (apS τ r) (zbA ht) ⟨by omega,fun n hn=>(hnum n hn).1⟩;have lI:=zMD t (apS τ r) (by omega) (by omega) _ 0 (by rw [qJ]);rw [e0x,qk] at lI
   cases hgt:gtT t (apS τ r) with
   | false=>
    refine failI (zjT _ _ _ _ ?_) hgt;rw [hgt] at gI;simp only [zeA,h12n,za,a1,hb,aI,gI,qa,qm,qg,qe];rw [qb h12]
    rfl
   | true=>
    rw [hgt] at gI hS
    have hI:zdc M s t l r=some (if (apS τ r).all (fun n=>decide (0<=n) || decide (n∈t))=true then ((apS τ r,true,()),()) else failR):=by
     apply zjT;simp only [zeA,h12n,za,a1,hb,aI,gI,lI,qa,qm,qg,qe];rw [qb h12];split<;>rfl
    split at hS
    ·rename_i hc;rw [qb hc] at hI;exact ⟨true,_,_,hI,hS,fun _=>⟨rfl,zf.2 ⟨h40,hT⟩,hgt,τ,a0,am.2.2,rfl⟩⟩
    ·rename_i hc;rw [qc hc] at hI;exact ⟨false,[],[],hI,hS,fun h=>by cases h⟩
  ·rw [qc h40] at aI;refine failI (zjT _ _ _ _ ?_) ?_
   ·simp only [zeA,h12n,za,a1,hb,aI,qa,qm,qg,qe];rw [qb h12];rfl
   ·unfold gtT;rw [qA (show ¬(apS τ r).length<=t.length by omega)];simp
def val:List Int->Nat
 | []=>0
 | n::t=>(n+13).toNat*64 ^ t.length+val t
def rngV (t:List Int):Prop:= ∀n∈t,-12<=n∧n<=10
theorem rngV.tail {n:Int} {t:List Int} (h:rngV (n::t)):rngV t:=fun x hx=>h x (qn _ hx)
theorem zE4: ∀t:List Int,rngV t->val t<64 ^ t.length
 | [],_=>by simp [val]
 | n::t,h=>by
  have h1:=zE4 t h.tail;have h2:=h n (by simp);have h3:(n+13).toNat<=23:=by omega
  have h4:=Nat.mul_le_mul_right (64 ^ t.length) h3;simp only [val,qD,Nat.pow_succ];omega
theorem zGf: ∀p q:List Int,p.length=q.length->rngV p->rngV q->gtLex p q=true->val q<val p
 | [],_,_,_,_,h=>by simp [gtLex] at h
 | _::_,[],_,_,_,h=>by simp [gtLex] at h
 | x::p,y::q,hl,hp,hq,h=>by
  simp only [qD,Nat.add_right_cancel_iff] at hl;simp only [val,hl];simp only [gtLex] at h;split at h
  ·rename_i e;have:=zGf p q hl hp.tail hq.tail h;rw [e];omega
  ·simp only [qq,qt] at h;have h1:=zE4 q hq.tail;have h3:(y+13).toNat+1<=(x+13).toNat:=by omega
   have h4:=Nat.mul_le_mul_right (64 ^ q.length) h3;rw [Nat.add_mul] at h4;omega
theorem zwQ: ∀l t:List Int,val (l++t)=val l*64 ^ t.length+val t
 | [],t=>by simp [val]
 | n::l,t=>by
  rw [qZ,val,val,zwQ l t,qL,Nat.pow_add,Nat.add_mul,Nat.mul_assoc,Nat.add_assoc]
def mu (t:List Int):Nat:=t.length*64 ^ 40+val t
theorem zMO {l p q z:List Int} (hp:rngV (l++(p++z))) (hq:rngV (l++(q++z))) (hlen:(l++(p++z)).length<=40) (h:gtT p q=true):mu (l++(q++z))<mu (l++(p++z)):=by
 simp only [gtT,qq,wb,qt] at h;obtain ⟨_,h1,h2⟩:=h;unfold mu;by_cases e:q.length<p.length
 ·have v1:=zE4 _ hq;have v2:(64:Nat) ^ (l++(q++z)).length<=64 ^ 40:=Nat.pow_le_pow_right (by omega) (by simp only [qL] at hlen ⊢; omega);have v3:=Nat.mul_le_mul_right ((64:Nat) ^ 40) (show (l++(q++z)).length+1<=(l++(p++z)).length by simp only [qL];omega);rw [Nat.add_mul] at v3;omega
 ·have hx:gtLex p q=true:=by rcases h2 with h | h;omega;exact h
  have el:p.length=q.length:=by omega
  have v:=zGf p q el (fun x hx=>hp x (by simp [hx])) (fun x hx=>hq x (by simp [hx])) hx;have w:=Nat.mul_lt_mul_of_pos_right v (Nat.pow_pos (n:=z.length) (show 0<64 by omega));rw [zwQ l,zwQ l,zwQ q,zwQ p];simp only [qL,el];omega
def okM (m:List Int):Prop:=m.Nodup∧ ∀x∈m,-12<=x∧x<0
theorem okM.len {m:List Int} (h:okM m):m.length<=12:=by
 have:=h.1.length_le_of_subset (l₂:=(List.range 12).map fun k:Nat=> -1-(k:Int)) (fun x hx=>by
  have:=h.2 x hx;exact qQ.2 ⟨(-1-x).toNat,by simp;omega,by omega⟩)
 simpa using this
theorem okM.add {m:List Int} (h:okM m) {n:Int} (h0:n<0) (h1: -12<=n):okM (addN m n):=by
 unfold addN;split
 ·rename_i q;refine ⟨?_,fun x hx=>?_⟩
  ·rw [qN];exact ⟨h.1,by simp,fun x hx y hy e=>by rw [qM] at hy;subst e;subst hy;exact q.2 hx⟩
  ·rcases qr.1 hx with hx | hx
   ·exact h.2 x hx
   ·rw [qM.1 hx];exact ⟨h1,h0⟩
 ·exact h
theorem zAJ (n:Int): ∀(m:List Int) (i:Nat),n∈m-> ∃j:Nat,j<i+m.length∧mget (mkM i m) n 0= -1-(j:Int)
 | [],_,h=>by cases h
 | a::r,i,h=>by
  simp only [mkM,mget,qD];by_cases e:a=n
  ·rw [qb e];exact ⟨i,by omega,rfl⟩
  ·rw [qc e];obtain ⟨j,j1,j2⟩:=zAJ n r (i+1) (by rcases qz.1 h with q | q;exact absurd q.symm e;exact q);exact ⟨j,by omega,j2⟩
theorem zE8 {a:List Int}: ∀(t met:List Int) (k:Int),okM met->sE a k t=some []-> ∃met',okM met'∧(rnm (mkM 0 met) t).2=mkM 0 met'∧sE a k (rnm (mkM 0 met) t).1=some []
 | [],met,k,hm,h=>⟨met,hm,rfl,h⟩
 | n::r,met,k,hm,h=>by
  simp only [sE] at h;split at h
  ·cases h
  ·rename_i hk;split at h
   ·cases h
   ·rename_i hb;simp only [rnm];by_cases h0:0<=n
    ·simp only [qb h0];obtain ⟨met',m1,m2,m3⟩:=zE8 r met _ hm h;refine ⟨met',m1,m2,?_⟩;simp only [sE,qc hk,qc hb];exact m3
    ·have hn: -12<=n:=by unfold badN at hb;omega
     have hm':=hm.add (n:=n) (by omega) hn;simp only [qc h0,zCl met (show n<0 by omega)];obtain ⟨met',m1,m2,m3⟩:=zE8 r (addN met n) _ hm' h;obtain ⟨j,j1,j2⟩:=zAJ n (addN met n) 0 (zAP met (by omega));have hl:=hm'.len;refine ⟨met',m1,m2,?_⟩;have e1:ar a n=0:=by unfold ar;rw [qb (by omega)]
     have e2:ar a (-1-(j:Int))=0:=by unfold ar;rw [qb (by omega)]
     have hbj: ¬badN a (-1-(j:Int)):=by unfold badN;omega
     rw [j2];simp only [sE,qc hk,qc hbj];rw [e2,<-e1];exact m3
theorem zIS {a:List Int}: ∀(ts:List (List Int)) (met:List Int),okM met->(∀t∈ts,isT a t=true)-> ∀t∈rnL (mkM 0 met) ts,isT a t=true
 | [],met,_,_,t,ht=>by cases ht
 | u::r,met,hm,h,t,ht=>by
  have hu:=zf.1 (h u (by simp));obtain ⟨met',m1,m2,m3⟩:=zE8 u met 1 hm hu.2;simp only [rnL] at ht;rcases qz.1 ht with rfl | ht
  ·exact zf.2 ⟨by rw [(zwM u _).1];exact hu.1,m3⟩
  ·rw [m2] at ht;exact zIS r met' m1 (fun x hx=>h x (by simp [hx])) t ht
theorem zBX: ∀(c:List TLit) (ts:List (List Int)),∀x∈wtZ c ts,x.2.1∈ts∧x.2.2.1∈ts
 | [],_,x,h=>by simp [wtZ] at h
 | _::_,[],x,h=>by simp [wtZ] at h
 | _::_,[_],x,h=>by simp [wtZ] at h
 | y::c,u::v::r,x,h=>by
  simp only [wtZ] at h;rcases qz.1 h with rfl | h
  ·exact ⟨by simp,by simp⟩
  ·obtain ⟨h1,h2⟩:=zBX c r x h;exact ⟨by simp [h1],by simp [h2]⟩
theorem zuY {a:List Int} {c:List TLit} (hl:c.length<=8) (h: ∀x∈c,litOK a x=true):clOK a (outC c)=true:=by
 have h2:=zzf c [];have hT:=zkj (td [] c);refine zm.2 ⟨?_,fun x hx=>?_⟩
 ·unfold outC rnC;rw [zzz _ _ (by rw [zzD];omega)];simp at h2;omega
 ·obtain ⟨h1,h3⟩:=zBX _ _ x hx
  have hk:=zIS (a:=a) (tms (td [] c)) [] ⟨by simp,by simp⟩ (fun t ht=>by
   obtain ⟨y,hy,e⟩:=zc3.1 ht;obtain ⟨q1,q2⟩:=z8.1 (h y (by rcases zwI c [] y hy with q | q;cases q;exact q));rcases e with rfl | rfl
   ·exact q1
   ·exact q2)
  exact z8.2 ⟨hk _ h1,hk _ h3⟩
def RwS (a:List Int) (units:List TLit) (t t':List Int):Prop:= ∃(x:TLit) (n:Int) (τ:Int->List Int) (p l z:List Int),x∈units∧okB a τ∧Tm a p∧t=l++(p++z)∧t'=l++(apS τ (sd x n).2++z)∧apS τ (sd x n).1=p
inductive RwM (a:List Int) (units:List TLit):List Int->List Int->Prop
  | refl (t:List Int):RwM a units t t
  | step (t t' T:List Int):RwS a units t t'->RwM a units t' T->RwM a units t T
theorem zGl {a:List Int} (hg:gS a=true) {t:List Int} (h:Tm a t):rngV t:=by
  have hal:a.length<=10:=by
    simp only [gS,qq,qt] at hg;omega
  intro n hn;have:=zti t 1 h n hn;omega
section
variable (s : TSign) (hg : gS s.1 = true) (units : List TLit) (hu : units.length <= 1000) (hux : ∀ x ∈ units, litOK s.1 x = true)
def lessT (t t':List Int):Prop:=isT s.1 t'=true∧mu t'<mu t∧RwS s.1 units t t'
include hg hux
theorem zJz (t p z:List Int) (at':Nat) (ht:isT s.1 t=true) (hpz:t.drop at'=p++z) (hp:Tm s.1 p) (k:Nat) (hk:k<units.length): ∀(j n:Nat),n+j=2->
    (zb9 M t units s at' p k units[k] units units.length k n=some (.inl (t,units,s,(at':Int),p,units,(units.length:Int),(k:Int),()))∧
     zcS M t units s at' p k units[k] n units units.length k=some (.inl (t,units,s,(at':Int),p,units,(units.length:Int),(k:Int),())))∨
    ∃t',lessT s units t t'∧zb9 M t units s at' p k units[k] units units.length k n=some (.inr ((t',(at':Int),(k:Int),true,()),()))∧
     zcS M t units s at' p k units[k] n units units.length k=some (.inr ((t',(at':Int),(k:Int),true,()),())):=by
  obtain ⟨t1,t2⟩:=zf.1 ht;have hpl:=Tm.pos hp;obtain ⟨c1,c2⟩:=zsq hpz hpl;have hpT:isT s.1 p=true:=zf.2 ⟨by omega,hp⟩;intro j
  induction j with
  | zero=>
    intro n hn;obtain rfl:n=2:=by omega
    refine .inl ⟨zfV _ _ _ _ _ _ _ _ _ _ _ ?_,zh6 _ _ _ _ _ _ _ _ _ _ _ ?_⟩
    · simp only [zcF,za];rw [qc (by simp)]
    · simp only [zdv,za]
      rw [qc (by simp)]
  | succ j ih=>
    intro n hn;obtain ⟨s1,s2⟩:=zkm units[k] (n:Int);obtain ⟨l1,l2⟩:=zkC (hux _ (qi hk)) (n:Int);obtain ⟨ok,o1,o2,r1,r2,r3⟩:=zH8 s hg p (sd units[k] (n:Int)).1 (sd units[k] (n:Int)).2 hpT l1 l2;have hn2:decide ((n:Int)<2)=true:=by simp;omega
    cases ok with
    | false=>
      have hI: ∀X,zb9 M t units s at' p k units[k] units units.length k ((n+1:Nat):Int)=X->zcF M t units s at' p k units[k] units units.length k n=X:=by
        intro X hX;simp only [zcF,za,zg,hn2,s1,r1,qa,qf,qg,qe];rw [zb (by omega)];exact hX
      have hS: ∀X,zcS M t units s at' p k units[k] ((n+1:Nat):Int) units units.length k=X->zdv M t units s at' p k units[k] n units units.length k=X:=by
        intro X hX;simp only [zdv,za,zg,hn2,s2,r2,qa,qf,qg,qe];rw [zb (by omega)];exact hX
      rcases ih (n+1) (by omega) with ⟨a1,a2⟩ | ⟨t',a0,a1,a2⟩
      · exact .inl ⟨zfV _ _ _ _ _ _ _ _ _ _ _ (hI _ a1),zh6 _ _ _ _ _ _ _ _ _ _ _ (hS _ a2)⟩
      · exact .inr ⟨t',a0,zfV _ _ _ _ _ _ _ _ _ _ _ (hI _ a1),zh6 _ _ _ _ _ _ _ _ _ _ _ (hS _ a2)⟩
    | true=>
      obtain ⟨e,o1T,ogt,τ,hτ,el,eo⟩:=r3 rfl;subst e;obtain ⟨ol,oT⟩:=zf.1 o1T;obtain ⟨rp1,rp2⟩:=zBA s hg t o1 (by omega) (by omega) hpz hp
      have hlen:o1.length<=p.length:=by
        simp only [gtT,qq,qt] at ogt;exact ogt.2.1
      have et:t=t.take at'++(p++z):=by rw [<-hpz,wa]
      have hT':Tm s.1 (t.take at'++(o1++z)):=zw3 hg (by rw [<-et];exact t2) hp oT
      have hl':(t.take at'++(o1++z)).length<=40:=by
        simp only [qL,List.length_take];omega
      have hmu:mu (t.take at'++(o1++z))<mu (t.take at'++(p++z)):=zMO (by rw [<-et];exact zGl hg t2) (zGl hg hT') (by rw [<-et];exact t1) ogt;rw [<-et] at hmu;rw [qE] at rp1 rp2;refine .inr ⟨t.take at'++(o1++z),⟨zf.2 ⟨hl',hT'⟩,hmu,units[k],(n:Int),τ,p,t.take at',z,qi hk,hτ,hp,et,by rw [eo],el⟩,zfV _ _ _ _ _ _ _ _ _ _ _ ?_,zh6 _ _ _ _ _ _ _ _ _ _ _ ?_⟩
      · simp only [zcF,za,zg,hn2,s1,r1,rp1,qa,qf]
      · simp only [zdv,za,zg,hn2,s2,r2,rp2,qa,qf]
include hu
theorem zIV (t p z:List Int) (at':Nat) (ht:isT s.1 t=true) (hpz:t.drop at'=p++z) (hp:Tm s.1 p): ∀(j k:Nat),k+j=units.length->
    (zcB M t units s at' p units units.length k=some (.inl (t,units,s,(at':Int),()))∧zdR M t units s at' p units units.length k=some (.inl (t,units,s,(at':Int),())))∨
    ∃t' k',lessT s units t t'∧zcB M t units s at' p units units.length k=some (.inr ((t',(at':Int),k',true,()),()))∧zdR M t units s at' p units units.length k=some (.inr ((t',(at':Int),k',true,()),())):=by
  intro j
  induction j with
  | zero=>
    intro k hk;obtain rfl:k=units.length:=by omega
    refine .inl ⟨zhj _ _ _ _ _ _ _ _ ?_,zj3 _ _ _ _ _ _ _ _ ?_⟩
    · simp only [zc2,za];rw [qc (by simp)]
    · simp only [zeB,za]
      rw [qc (by simp)]
  | succ j ih=>
    intro k hk;have h1:k<units.length:=by omega
    have hlt:decide ((k:Int)<(units.length:Int))=true:=by simp;omega
    have hin:=zJz s hg units hux t p z at' ht hpz hp k h1 2 0 (by omega);rw [e0x] at hin;rcases hin with ⟨b1,b2⟩ | ⟨t',b0,b1,b2⟩
    · have hI: ∀X,zcB M t units s at' p units units.length ((k+1:Nat):Int)=X->zc2 M t units s at' p units units.length k=X:=by
        intro X hX;simp only [zc2,za,hlt,zd h1,zg,b1,qa,qd,qf];rw [zb (by omega)];exact hX
      have hS: ∀X,zdR M t units s at' p units units.length ((k+1:Nat):Int)=X->zeB M t units s at' p units units.length k=X:=by
        intro X hX;simp only [zeB,za,hlt,zd h1,zg,b2,qa,qd,qf];rw [zb (by omega)];exact hX
      rcases ih (k+1) (by omega) with ⟨a1,a2⟩ | ⟨t',k',a0,a1,a2⟩
      · exact .inl ⟨zhj _ _ _ _ _ _ _ _ (hI _ a1),zj3 _ _ _ _ _ _ _ _ (hS _ a2)⟩
      · exact .inr ⟨t',k',a0,zhj _ _ _ _ _ _ _ _ (hI _ a1),zj3 _ _ _ _ _ _ _ _ (hS _ a2)⟩
    · refine .inr ⟨t',(k:Int),b0,zhj _ _ _ _ _ _ _ _ ?_,zj3 _ _ _ _ _ _ _ _ ?_⟩
      · simp only [zc2,za,hlt,zd h1,zg,b1,qa,qF,qf]
      · simp only [zeB,za,hlt,zd h1,zg,b2,qa,qF,qf]
theorem zHs (t:List Int) (ht:isT s.1 t=true): ∀(m:Nat),m<=t.length->
    (zde M t units s ((m:Int)-1)=some (.inl ())∧zfa M t units s ((m:Int)-1)=some (.inl ()))∨
    ∃t' a' k',lessT s units t t'∧zde M t units s ((m:Int)-1)=some (.inr ((t',a',k',true,()),()))∧zfa M t units s ((m:Int)-1)=some (.inr ((t',a',k',true,()),())):=by
  obtain ⟨t1,t2⟩:=zf.1 ht;intro m
  induction m with
  | zero=>
    intro _;refine .inl ⟨zi0 _ _ _ _ ?_,zlG _ _ _ _ ?_⟩
    · simp only [zd1];rw [qc (by simp)]
    · simp only [zgt]
      rw [qc (by simp)]
  | succ m ih=>
    intro hm;have e1:((m+1:Nat):Int)-1=(m:Int):=by omega
    rw [e1];have hge:decide ((m:Int)>=0)=true:=by simp
    obtain ⟨p,z,hpz,hp⟩:=Tm.at hg t2 (show m<t.length by omega);have pI:=zzx s hg t (by omega) hpz hp;have pS:=zs6 s hg t (by omega) hpz hp;have hmid:=zIV s hg units hu hux t p z m ht hpz hp units.length 0 (by omega);rw [e0x] at hmid;rcases hmid with ⟨b1,b2⟩ | ⟨t',k',b0,b1,b2⟩
    · have hI: ∀X,zde M t units s ((m:Int)-1)=X->zd1 M t units s m=X:=by
        intro X hX;simp only [zd1,za,hge,pI,b1,qa,qd,qf];rw [w64 (by omega) (by omega)];exact hX
      have hS: ∀X,zfa M t units s ((m:Int)-1)=X->zgt M t units s m=X:=by
        intro X hX;simp only [zgt,za,hge,pS,b2,qa,qd,qf];rw [w64 (by omega) (by omega)];exact hX
      rcases ih (by omega) with ⟨a1,a2⟩ | ⟨t',a',k',a0,a1,a2⟩
      · exact .inl ⟨zi0 _ _ _ _ (hI _ a1),zlG _ _ _ _ (hS _ a2)⟩
      · exact .inr ⟨t',a',k',a0,zi0 _ _ _ _ (hI _ a1),zlG _ _ _ _ (hS _ a2)⟩
    · refine .inr ⟨t',(m:Int),k',b0,zi0 _ _ _ _ ?_,zlG _ _ _ _ ?_⟩
      · simp only [zd1,za,hge,pI,b1,qa,qF,qf]
      · simp only [zgt,za,hge,pS,b2,qa,qF,qf]
theorem zMb (t:List Int) (ht:isT s.1 t=true):
    (zjq M s t units=some (([],0,0,false,()),())∧zmT M s t units=some (([],0,0,false,()),()))∨
    ∃t' a' k',lessT s units t t'∧zjq M s t units=some ((t',a',k',true,()),())∧zmT M s t units=some ((t',a',k',true,()),()):=by
  obtain ⟨t1,t2⟩:=zf.1 ht;have hw:IntKind.i64.wrap ((t.length:Int)-1)=(t.length:Int)-1:=w64 (by omega) (by omega);rcases zHs s hg units hu hux t ht t.length (ql _) with ⟨a1,a2⟩ | ⟨t',a',k',a0,a1,a2⟩
  · refine .inl ⟨zvc _ _ _ ?_,zxX _ _ _ ?_⟩
    · simp only [zmw,za,hw,a1,qa,qd]
    · simp only [zpV,za,hw,a2,qa,qd]
  · refine .inr ⟨t',a',k',a0,zvc _ _ _ ?_,zxX _ _ _ ?_⟩
    · simp only [zmw,za,hw,a1,qa,qF]
    · simp only [zpV,za,hw,a2,qa,qF]
theorem zG2: ∀(m:Nat) (t:List Int) (n:Int),mu t<m->isT s.1 t=true-> ∃(T:List Int) (N:Int),isT s.1 T=true∧RwM s.1 units t T∧zfg M t units s n=some (.inr ((T,N,()),()))∧zhP M units s t n=some (.inr ((T,N,()),())):=by
  intro m
  induction m with
  | zero=>intro t n h;omega
  | succ m ih=>
    intro t n h ht;rcases zMb s hg units hu hux t ht with ⟨a1,a2⟩ | ⟨t',a',k',a0,a1,a2⟩
    · refine ⟨t,n,ht,.refl t,zpA _ _ _ _ ?_,zsf _ _ _ _ ?_⟩
      · simp only [zhu,za,a1,qa];rfl
      · simp only [zj5,za,a2,qa];rfl
    · obtain ⟨T,N,b0,bm,b1,b2⟩:=ih t' (IntKind.i64.wrap (n+1)) (by have:=a0.2.1;omega) a0.1;refine ⟨T,N,b0,.step t t' T a0.2.2 bm,zpA _ _ _ _ ?_,zsf _ _ _ _ ?_⟩
      · simp only [zhu,za,a1,qa,qm,qg,qe];exact b1
      · simp only [zj5,za,a2,qa,qm,qg,qe];exact b2
theorem zKh (t:List Int) (ht:isT s.1 t=true): ∃(T:List Int) (N:Int),isT s.1 T=true∧RwM s.1 units t T∧zfh M s t units=some ((T,N,()),())∧zih M s t units=some ((T,N,()),()):=by
  obtain ⟨t1,t2⟩:=zf.1 ht;obtain ⟨T,N,b0,bm,b1,b2⟩:=zG2 s hg units hu hux (mu t+1) t 0 (by omega) ht;refine ⟨T,N,b0,bm,zzs _ _ _ ?_,zBC _ _ _ ?_⟩
  · simp only [znV,za,b1,qa,qF];rw [qb (by omega)]
  · simp only [zrs,za,ziU t (by omega),b2,qa,qF]
end
section
variable (s : TSign) (units : List TLit)
noncomputable def nfT (t:List Int):List Int:=match zfh M s t units with
 | some r=>r.1.1
 | none=> []
variable (hg : gS s.1 = true) (hu : units.length <= 1000) (hux : ∀ x ∈ units, litOK s.1 x = true)
include hg hu hux
theorem p_nf (t:List Int) (ht:isT s.1 t=true):isT s.1 (nfT s units t)=true∧RwM s.1 units t (nfT s units t)∧ ∃N:Int,zfh M s t units=some ((nfT s units t,N,()),())∧zih M s t units=some ((nfT s units t,N,()),()):=by
 obtain ⟨T,N,b0,bm,b1,b2⟩:=zKh s hg units hu hux t ht;have e:nfT s units t=T:=by unfold nfT;rw [b1]
 rw [e];exact ⟨b0,bm,N,b1,b2⟩
theorem zJ4 (c:List TLit) (ts:List (List Int)) (hl:ts.length<=1000) (ht: ∀t∈ts,isT s.1 t=true): ∀(k i:Nat) (m:Int),i+k=ts.length-> ∃m':Int,
  zcC M c units s ((ts.take i).map (fun t=>(some (true,nfT s units t):Option (Bool×List Int)))++(ts.drop i).map (fun t=>some (false,t))) m ts.length i=some (.inl (c,ts.map (fun t=>some (true,nfT s units t)),m',())):=by
 intro k
 induction k with
 | zero=>
  intro i m hi;obtain rfl:i=ts.length:=by omega
  refine ⟨m,zlg _ _ _ _ _ _ _ ?_⟩
  simp [zdz]
 | succ k ih=>
  intro i m hi;have h2:i<ts.length:=by omega
  obtain ⟨b0,_,N,b1,b2⟩:=p_nf s units hg hu hux ts[i] (ht _ (qi h2));have hlen:((ts.take i).map (fun t=>(some (true,nfT s units t):Option (Bool×List Int)))++(ts.drop i).map (fun t=>some (false,t))).length=ts.length:=by simp;omega
  have hget:((ts.take i).map (fun t=>(some (true,nfT s units t):Option (Bool×List Int)))++(ts.drop i).map (fun t=>some (false,t)))[i]?=some (some (false,ts[i])):=by
   rw [List.getElem?_append_right (by simp;omega)];simp [Nat.min_eq_left (Nat.le_of_lt h2),h2]
  have hsee:seeO ((ts.take i).map (fun t=>(some (true,nfT s units t):Option (Bool×List Int)))++(ts.drop i).map (fun t=>some (false,t))) i=some ts[i]:=by
   unfold seeO;rw [hget]
  have hnext:(ts.take (i+1)).map (fun t=>(some (true,nfT s units t):Option (Bool×List Int)))++(ts.drop (i+1)).map (fun t=>some (false,t))=((ts.take i).map (fun t=>(some (true,nfT s units t):Option (Bool×List Int)))++(ts.drop i).map (fun t=>some (false,t))).set i (some (true,nfT s units ts[i])):=by
   rw [List.take_succ_eq_append_getElem h2,List.map_append,List.set_append_right _ _ (by simp;omega)];have e:i-((ts.take i).map (fun t=>(some (true,nfT s units t):Option (Bool×List Int)))).length=0:=by simp;omega
   rw [e,qj h2];simp only [qK,List.map_nil,List.set_cons_zero,qE,qZ,qC]
  obtain ⟨m',ih'⟩:=ih (i+1) (IntKind.i64.wrap (m+N)) (by omega);rw [hnext] at ih';refine ⟨m',zlg _ _ _ _ _ _ _ ?_⟩;simp only [zdz];rw [qb (by simpa using h2),qb (by rw [hlen];omega),qo,hsee];simp only [qa,za,b1];rw [qb (by rw [hlen];omega),hget];simp only [qa];rw [zb (by omega)];exact ih'
noncomputable def nfC (c:List TLit):List TLit:=c.map fun x=>(x.1,nfT s units x.2.1,nfT s units x.2.2.1,())
omit hg hu hux in
theorem zKQ (c:List TLit):(nfC s units c).length=c.length:=by simp [nfC]
theorem zH7 {c:List TLit} (hc: ∀x∈c,litOK s.1 x=true): ∀x∈nfC s units c,litOK s.1 x=true:=by
 intro x hx;obtain ⟨y,hy,rfl⟩:=qQ.1 hx;obtain ⟨h1,h2⟩:=z8.1 (hc y hy);exact z8.2 ⟨(p_nf s units hg hu hux _ h1).1,(p_nf s units hg hu hux _ h2).1⟩
theorem zKa (c:List TLit) (hl:c.length<=1000) (hc: ∀x∈c,litOK s.1 x=true): ∀(k i:Nat) (o:List TLit) (m:Int),i+k=c.length->o.length<=i-> ∃m':Int,zgO M units s o m c c.length i=some (.inl (o++nfC s units (c.drop i),m',())):=by
 intro k
 induction k with
 | zero=>
  intro i o m hi ho;obtain rfl:i=c.length:=by omega
  refine ⟨m,zra _ _ _ _ _ _ _ ?_⟩;simp only [zi5];rw [qc (by simp),qG]
  simp [nfC]
 | succ k ih=>
  intro i o m hi ho;have h1:i<c.length:=by omega
  obtain ⟨l1,l2⟩:=z8.1 (hc _ (qi h1));obtain ⟨a0,_,N1,a1,a2⟩:=p_nf s units hg hu hux _ l1;obtain ⟨b0,_,N2,b1,b2⟩:=p_nf s units hg hu hux _ l2;obtain ⟨m',ih'⟩:=ih (i+1) (o++ [(c[i].1,nfT s units c[i].2.1,nfT s units c[i].2.2.1,())]) (IntKind.i64.wrap (m+IntKind.i64.wrap (N1+N2))) (by omega) (by simp;omega);refine ⟨m',zra _ _ _ _ _ _ _ ?_⟩;simp only [zi5];rw [qb (by simpa using h1),zd h1];simp only [qa,za,a2,b2];rw [qb (by simp;omega),zb (by omega),ih',qj h1,qE];rfl
theorem zza (c:List TLit) (hc:clOK s.1 c=true): ∃(C:List TLit) (n1 n2:Int),clOK s.1 C=true∧C=outC (nfC s units c)∧zgs M s c units=some ((C,n1,()),())∧zgn M s c units=some ((C,n2,()),()):=by
 obtain ⟨c1,c2⟩:=zm.1 hc
 have hT: ∀t∈tms c,isT s.1 t=true:=by
  intro t ht;obtain ⟨x,hx,h⟩:=zc3.1 ht;obtain ⟨h1,h2⟩:=z8.1 (c2 x hx);rcases h with rfl | rfl
  ·exact h1
  ·exact h2
 have hL:=zkj c;have nok:=zH7 s units hg hu hux c2;have nl:=zKQ s units c;have lim: ∀x∈nfC s units c,x.2.1.length<=1000∧x.2.2.1.length<=1000:=fun x hx=>by have:=zbt (nok x hx);omega
 obtain ⟨o1,o2⟩:=zle (nfC s units c) (by omega) lim;obtain ⟨m1,k1⟩:=zJ4 s units hg hu hux c (tms c) (by omega) hT (tms c).length 0 0 (by omega);rw [e0x] at k1;simp only [List.take_zero,List.map_nil,qC,qk] at k1;obtain ⟨m2,k2⟩:=zKa s units hg hu hux c (by omega) c2 c.length 0 [] 0 (by omega) (by simp);rw [e0x,qk,qC] at k2;refine ⟨outC (nfC s units c),m1,m2,zuY (by omega) nok,rfl,zvi _ _ _ ?_,zA7 _ _ _ ?_⟩
 ·simp only [zjy,zoh c (by omega),za,qa,k1,qd];rw [qb (zzd _ _),zxB,zsS c _ (by omega) (by simp only [qV,zkj];omega),zzB];simp only [qa];show (zdT M (nfC s units c)).bind _=_;rw [o1];rfl
 ·simp only [zq9,za,k2,qa,qd,o2]
end
def smS (x:List Int):Prop:=x.length<=1048576
abbrev TWorld:=Int×List (List Int)×Unit
theorem zbc (x:TWorld):(x.1,x.2.1,())=x:=rfl
def pw (s:Int):Nat->Int
 | 0=>1
 | k+1=>s*pw s k
theorem zEa {s:Int} (hs:1<=s): ∀k,1<=pw s k
 | 0=>Int.le_refl _
 | k+1=>by
  have h:=zEa hs k;have:1*1<=s*pw s k:=Int.mul_le_mul hs h (by omega) (by omega);simpa [pw] using this
theorem zD0 {s:Int} (h1:1<=s) (h3:s<=3) {k:Nat} (hk:k<=3):pw s k<=27:=by
 have hs:s=1∨s=2∨s=3:=by omega
 have hk':k=0∨k=1∨k=2∨k=3:=by omega
 rcases hs with rfl | rfl | rfl<;>rcases hk' with rfl | rfl | rfl | rfl<;>decide
theorem zEM {s n:Int} {k:Nat} (h1:1<=s) (hn:0<=n) (hb:n*pw s (k+1)<=1000000):0<=n*s∧n*s<=1000000∧(n*s)*pw s k<=1000000:=by
 have hp:=zEa h1 k;have h0:0<=n*s:=Int.mul_nonneg hn (by omega);have e:(n*s)*pw s k=n*pw s (k+1):=by rw [Int.mul_assoc];rfl
 have:(n*s)*1<=(n*s)*pw s k:=Int.mul_le_mul_of_nonneg_left hp h0;rw [Int.mul_one] at this;exact ⟨h0,by omega,by omega⟩
def elOK (s:Int) (l:List Int):Bool:=l.all fun x=>decide (0<=x)&&decide (x<s)
def tabOK (s:Int):List Int->List (List Int)->Bool
 | k::ks,t::ts=>decide ((t.length:Int)=pw s k.toNat)&&(elOK s t&&tabOK s ks ts)
 | _,_=>true
def wOK (a:List Int) (w:TWorld):Bool:=decide (1<=w.1)&&(decide (w.1<=3)&&(decide (w.2.1.length=a.length)&&tabOK w.1 a w.2.1))
theorem zIR {a:List Int} (hg:gS a=true):a.length<=10∧ ∀x∈a,0<=x∧x<=3:=by
 simp only [gS,qq,List.all_eq_true,qt] at hg;exact ⟨hg.2.1,fun x hx=>by simpa using hg.2.2.1 x hx⟩
theorem zyN {s:Int}: ∀ {a:List Int} {ts:List (List Int)} (i:Nat) (h:i<a.length) (h':i<ts.length),tabOK s a ts=true->(ts[i].length:Int)=pw s (a[i]).toNat∧elOK s ts[i]=true
 | k::ks,t::ts,0,_,_,ht=>by
  simp only [tabOK,qq,qt] at ht
  exact ⟨ht.1,ht.2.1⟩
 | k::ks,t::ts,i+1,h,h',ht=>by
  simp only [tabOK,qq,qt] at ht;exact zyN i (by simpa using h) (by simpa using h') ht.2.2
def envOK (s:Int) (e:List Int):Bool:=decide (e.length=12)&&elOK s e
theorem zqJ {s:Int} {e:List Int} (h:envOK s e=true) (i:Nat) (hi:i<12): ∃v,e[i]?=some v∧0<=v∧v<s:=by
 simp only [envOK,elOK,qq,qt,List.all_eq_true] at h;have h1:i<e.length:=by omega
 exact ⟨e[i],qu h1,h.2 _ (qi h1)⟩
theorem zC3 {s:Int} {e:List Int} (h:envOK s e=true) (i:Nat) (v:Int) (h0:0<=v) (h1:v<s):envOK s (e.set i v)=true:=by
 simp only [envOK,elOK,qq,qt,List.all_eq_true,List.length_set] at h ⊢;refine ⟨h.1,fun x hx=>?_⟩;rcases List.mem_or_eq_of_mem_set hx with h2 | h2
 ·exact h.2 x h2
 ·subst h2;exact ⟨h0,h1⟩
theorem zEe {s acc v P:Int} (h1:1<=s) (h3:s<=3) (h0:0<=acc) (hP:acc<P) (hP':P<=1000) (v0:0<=v) (v1:v<s):0<=acc*s+v∧acc*s+v<s*P∧0<=acc*s∧acc*s<=3000:=by
 have a1:0<=acc*s:=Int.mul_nonneg h0 (by omega);have a2:acc*s<=(P-1)*s:=Int.mul_le_mul_of_nonneg_right (by omega) (by omega);have a3:(P-1)*s=s*P-s:=by rw [Int.sub_mul,Int.one_mul,Int.mul_comm]
 have a4:acc*s<=acc*3:=Int.mul_le_mul_of_nonneg_left h3 h0;exact ⟨by omega,by omega,a1,by omega⟩
theorem ztB {a:List Int} {w:TWorld} (h:wOK a w=true):1<=w.1∧w.1<=3∧w.2.1.length=a.length∧tabOK w.1 a w.2.1=true:=by
 simpa only [wOK,qq,qt] using h
theorem zKB {a:List Int} (hg:gS a=true) {u v x y:List Int} (hu:Tm a u) (hv:Tm a v) (h:u++x=v++y):u=v∧x=y:=by
 have e1:=hu.rest hg x;have e2:=hv.rest hg y;rw [h] at e1;have e3:x=y:=by rw [e1] at e2;exact qh e2
 subst e3;exact ⟨List.append_cancel_right h,rfl⟩
theorem zC8 {a:List Int} (hg:gS a=true): ∀(us vs:List (List Int)) (x y:List Int),(∀u∈us,Tm a u)->(∀v∈vs,Tm a v)->us.length=vs.length->us.flatten++x=vs.flatten++y->us=vs
 | [],[],_,_,_,_,_,_=>rfl
 | [],_::_,_,_,_,_,h,_=>by simp at h
 | _::_,[],_,_,_,_,h,_=>by simp at h
 | u::us,v::vs,x,y,hu,hv,hl,h=>by
  simp only [List.flatten_cons,qE] at h;obtain ⟨e1,e2⟩:=zKB hg (hu u (by simp)) (hv v (by simp)) h;rw [e1,zC8 hg us vs x y (fun u h=>hu u (by simp [h])) (fun v h=>hv v (by simp [h])) (by simpa using hl) e2]
open Classical in
noncomputable def kidsOf (a:List Int) (n:Int) (r:List Int):List (List Int):=if h: ∃us:List (List Int),r=us.flatten∧(us.length:Int)=ar a n∧ ∀u∈us,Tm a u then h.choose else []
theorem zC4 {a:List Int} (hg:gS a=true) {n:Int} {us:List (List Int)} (hl:(us.length:Int)=ar a n) (hk: ∀u∈us,Tm a u):kidsOf a n us.flatten=us:=by
 have h: ∃vs:List (List Int),us.flatten=vs.flatten∧(vs.length:Int)=ar a n∧ ∀u∈vs,Tm a u:=⟨us,rfl,hl,hk⟩;unfold kidsOf;rw [dif_pos h];obtain ⟨e1,e2,e3⟩:=h.choose_spec;exact zC8 hg _ us [] [] e3 hk (by omega) (by rw [qP,qP];exact e1.symm)
def foldV (S acc:Int) (vs:List Int):Int:=vs.foldl (fun acc v=>acc*S+v) acc
noncomputable def vlN (a:List Int) (w:TWorld) (env:List Int):Nat->List Int->Int
 | 0,_=>0
 | _+1,[]=>0
 | k+1,n::r=>if n<0 then (env[(-1-n).toNat]?).getD 0 else ((w.2.1[n.toNat]?).bind fun tb=>tb[(foldV w.1 0 ((kidsOf a n r).map (vlN a w env k))).toNat]?).getD 0
noncomputable def vl (a:List Int) (w:TWorld) (env t:List Int):Int:=vlN a w env t.length t
section
variable {a : List Int} (hg : gS a = true) (w : TWorld) (env : List Int)
include hg
theorem zL2: ∀(k j:Nat) (t:List Int),t.length<=k->t.length<=j->Tm a t->vlN a w env k t=vlN a w env j t:=by
 intro k
 induction k with
 | zero=>intro j t h _ ht;have:=ht.pos;omega
 | succ k ih=>
  intro j t hk hj ht;obtain ⟨n,us,rfl,hb,hl,hu⟩:=ht.parts hg;simp only [qD] at hk hj;obtain ⟨j,rfl⟩: ∃j',j=j'+1:=⟨j-1,by omega⟩;simp only [vlN,zC4 hg hl hu]
  have:us.map (vlN a w env k)=us.map (vlN a w env j):=List.map_congr_left fun u hu'=>by
   have:u.length<=us.flatten.length:=(List.sublist_flatten_of_mem hu').length_le;exact ih j u (by omega) (by omega) (hu u hu')
  rw [this]
omit hg in
theorem zwN {n:Int} (h:n<0):vl a w env [n]=(env[(-1-n).toNat]?).getD 0:=by
 simp only [vl,qD,qT,vlN,h,qf]
theorem ztq {n:Int} (h: ¬n<0) {us:List (List Int)} (hl:(us.length:Int)=ar a n) (hu: ∀u∈us,Tm a u):vl a w env (n::us.flatten)=((w.2.1[n.toNat]?).bind fun tb=>tb[(foldV w.1 0 (us.map (vl a w env))).toNat]?).getD 0:=by
 simp only [vl,qD,vlN,qc h,zC4 hg hl hu]
 have:us.map (vlN a w env us.flatten.length)=us.map (fun t=>vlN a w env t.length t):=List.map_congr_left fun u hu'=>by
  have:u.length<=us.flatten.length:=(List.sublist_flatten_of_mem hu').length_le;exact zL2 hg w env _ _ u this (ql _) (hu u hu')
 rw [this];rfl
omit hg in
theorem zKE (hg:gS a=true) (hw:wOK a w=true) (he:envOK w.1 env=true) {t:List Int} (ht:Tm a t):0<=vl a w env t∧vl a w env t<w.1:=by
 obtain ⟨h1,h3,hwl,hwt⟩:=ztB hw;obtain ⟨n,us,rfl,hb,hl,hu⟩:=ht.parts hg;unfold badN at hb;by_cases h:n<0
 ·have h4:ar a n=0:=by simp [ar,h]
  obtain rfl:us= []:=List.eq_nil_of_length_eq_zero (by omega);obtain ⟨v,v1,v2,v3⟩:=zqJ he (-1-n).toNat (by omega);rw [List.flatten_nil,zwN w env h,v1];exact ⟨v2,v3⟩
 ·rw [ztq hg w env h hl hu];have hna:n.toNat<a.length:=by omega
  have hnt:n.toNat<w.2.1.length:=by omega
  have htab:=(zyN n.toNat hna hnt hwt).2;rw [qu hnt,qa]
  cases hx:(w.2.1[n.toNat])[(foldV w.1 0 (us.map (vl a w env))).toNat]? with
  | none=>exact ⟨Int.le_refl _,by show (0:Int)<w.1;omega⟩
  | some x=>
   simp only [elOK,List.all_eq_true,qq,qt] at htab;exact htab x (List.mem_of_getElem? hx)
end
noncomputable def envS (a:List Int) (w:TWorld) (τ:Int->List Int) (env:List Int):List Int:=(List.range 12).map fun (k:Nat)=>if τ (k:Int)≠ [] then vl a w env (τ (k:Int)) else (env[k]?).getD 0
section
variable {a : List Int} (hg : gS a = true) (w : TWorld) (env : List Int) {τ : Int -> List Int} (hτ : ∀ v, τ v ≠ [] -> Tm a (τ v))
include hg hτ
theorem zwR (hw:wOK a w=true) (he:envOK w.1 env=true):envOK w.1 (envS a w τ env)=true:=by
 simp only [envOK,elOK,envS,qq,qt,List.all_eq_true,qV,List.length_range,qQ,true_and]
 rintro x ⟨k,hk,rfl⟩
 rw [List.mem_range] at hk;split
 ·rename_i h;exact zKE w env hg hw he (hτ _ h)
 ·obtain ⟨v,v1,v2,v3⟩:=zqJ he k hk;rw [v1];exact ⟨v2,v3⟩
omit hg hτ in
theorem zAf (τ:Int->List Int): ∀us:List (List Int),apS τ us.flatten=(us.map (apS τ)).flatten
 | []=>rfl
 | u::us=>by rw [List.flatten_cons,zkP,zAf τ us];rfl
theorem zrx: ∀(N:Nat) (t:List Int),t.length<=N->Tm a t->vl a w env (apS τ t)=vl a w (envS a w τ env) t:=by
 intro N
 induction N with
 | zero=>intro t h ht;have:=ht.pos;omega
 | succ N ih=>
  intro t hN ht;obtain ⟨n,us,rfl,hb,hl,hu⟩:=ht.parts hg;simp only [qD] at hN;unfold badN at hb;by_cases h:n<0
  ·have h4:ar a n=0:=by simp [ar,h]
   obtain rfl:us= []:=List.eq_nil_of_length_eq_zero (by omega);rw [List.flatten_nil,zwN w _ h,zdg];have e0:apS τ []= []:=rfl;rw [e0,qP];have hk:(-1-n).toNat<12:=by omega
   have e1:(((-1-n).toNat:Nat):Int)= -1-n:=by omega
   simp only [envS,List.getElem?_map,List.getElem?_range hk,qY,Option.getD_some,e1];by_cases hs:τ (-1-n)= []
   ·rw [zqO hs,zwN w env h,qc (fun q=>q hs)]
   ·rw [zis h hs,qb hs]
  ·rw [zdg,zmM (by omega),zAf];have hl':((us.map (apS τ)).length:Int)=ar a n:=by rw [qV];exact hl
   have hu': ∀u∈us.map (apS τ),Tm a u:=by
    intro u q;obtain ⟨v,hv,rfl⟩:=qQ.1 q;exact zkt hg hτ (hu v hv)
   rw [List.singleton_append,ztq hg w env h hl' hu',ztq hg w _ h hl hu,List.map_map]
   have:us.map (vl a w env∘apS τ)=us.map (vl a w (envS a w τ env)):=List.map_congr_left fun u q=>by
    have:u.length<=us.flatten.length:=(List.sublist_flatten_of_mem q).length_le;exact ih u (by omega) (hu u q)
   rw [this]
end
section
variable {a : List Int} (hg : gS a = true) (w : TWorld)
include hg
theorem zLF (env env':List Int): ∀(N:Nat) (t:List Int),t.length<=N->Tm a t->(∀n∈t,n<0->env[(-1-n).toNat]?=env'[(-1-n).toNat]?)->vl a w env t=vl a w env' t:=by
 intro N
 induction N with
 | zero=>intro t h ht;have:=ht.pos;omega
 | succ N ih=>
  intro t hN ht hv;obtain ⟨n,us,rfl,hb,hl,hu⟩:=ht.parts hg;simp only [qD] at hN;by_cases h:n<0
  ·have h4:ar a n=0:=by simp [ar,h]
   obtain rfl:us= []:=List.eq_nil_of_length_eq_zero (by omega);rw [List.flatten_nil,zwN w _ h,zwN w _ h,hv n (by simp) h]
  ·rw [ztq hg w _ h hl hu,ztq hg w _ h hl hu]
   have:us.map (vl a w env)=us.map (vl a w env'):=List.map_congr_left fun u q=>by
    have:u.length<=us.flatten.length:=(List.sublist_flatten_of_mem q).length_le;exact ih u (by omega) (hu u q) (fun n hn=>hv n (qn _ (List.mem_flatten.2 ⟨u,q,hn⟩)))
   rw [this]
theorem zLO: ∀(us:List (List Int)) (l p z:List Int),(∀u∈us,Tm a u)->us.flatten=l++(p++z)->Tm a p-> ∃us1 u us2 l2 z2,us=us1++u::us2∧u=l2++(p++z2)∧l=us1.flatten++l2∧z=z2++us2.flatten:=by
 intro us
 induction us with
 | nil=>
  intro l p z _ h hp;have:=hp.pos;have h':=congrArg List.length h;simp at h'
  omega
 | cons u us ih=>
  intro l p z hu h hp;rw [List.flatten_cons] at h;by_cases hl:u.length<=l.length
  ·have e1:l.take u.length=u:=by
    have:=congrArg (List.take u.length) h;rw [List.take_left',List.take_append_of_le_length hl] at this
    ·exact this.symm
    ·rfl
   have e2:us.flatten=l.drop u.length++(p++z):=by
    have:=congrArg (List.drop u.length) h;rw [List.drop_left',List.drop_append_of_le_length hl] at this
    ·exact this
    ·rfl
   obtain ⟨us1,v,us2,l2,z2,q1,q2,q3,q4⟩:=ih _ p z (fun v h=>hu v (by simp [h])) e2 hp;refine ⟨u::us1,v,us2,l2,z2,by rw [q1];rfl,q2,?_,q4⟩;rw [List.flatten_cons,qE,<-q3];have:=wa u.length l;rw [e1] at this;exact this.symm
  ·have hlt:l.length<u.length:=by omega
   have e1:u.take l.length=l:=by
    have:=congrArg (List.take l.length) h;rw [List.take_append_of_le_length (by omega),List.take_left'] at this
    ·exact this
    ·rfl
   have e2:u.drop l.length++us.flatten=p++z:=by
    have:=congrArg (List.drop l.length) h;rw [List.drop_append_of_le_length (by omega),List.drop_left'] at this
    ·exact this
    ·rfl
   obtain ⟨v,x,v1,v2⟩:=Tm.at hg (hu u (by simp)) hlt;rw [v1,qE] at e2;obtain ⟨q1,q2⟩:=zKB hg v2 hp e2;refine ⟨[],u,us,l,x,rfl,?_,rfl,q2.symm⟩;have:=wa l.length u;rw [e1,v1,q1] at this;exact this.symm
theorem zF1 (env:List Int) {p r:List Int} (hp:Tm a p) (hr:Tm a r) (hv:vl a w env p=vl a w env r): ∀(N:Nat) (l z:List Int),(l++(p++z)).length<=N->Tm a (l++(p++z))->Tm a (l++(r++z))->vl a w env (l++(p++z))=vl a w env (l++(r++z)):=by
 intro N
 induction N with
 | zero=>
  intro l z h _;have:=hp.pos;simp only [qL] at h
  omega
 | succ N ih=>
  intro l z hN ht ht'
  cases l with
  | nil=>
   have hz:z= []:=zyS hg hp ht;subst hz
   simpa using hv
  | cons n l=>
   simp only [qZ,qD] at hN ht ht' ⊢;obtain ⟨m,us,e,hb,hl,hu⟩:=ht.parts hg;obtain ⟨e0,e2⟩:=List.cons.inj e;subst e0;obtain ⟨us1,u,us2,l2,z2,q1,q2,q3,q4⟩:=zLO hg us l p z hu e2.symm hp;subst q1;subst q2;have hT:Tm a (l2++(p++z2)):=hu _ (by simp)
   have e':l++(r++z)=(us1++(l2++(r++z2))::us2).flatten:=by
    rw [q3,q4];simp [qE]
   by_cases h:n<0
   ·have h4:ar a n=0:=by simp [ar,h]
    rw [h4] at hl;simp at hl;omega
   ·have hT':Tm a (l2++(r++z2)):=zw3 hg hT hp hr
    have hl':((us1++(l2++(r++z2))::us2).length:Int)=ar a n:=by
     rw [<-hl];simp
    have hu': ∀u∈us1++(l2++(r++z2))::us2,Tm a u:=by
     intro u q;rcases qr.1 q with q | q
     ·exact hu u (by simp [q])
     ·rcases qz.1 q with q | q
      ·rw [q];exact hT'
      ·exact hu u (by simp [q])
    rw [e,e',ztq hg w env h hl hu,ztq hg w env h hl' hu']
    have hle:(l2++(p++z2)).length<=N:=by
     have:=congrArg List.length e;simp at this hN ⊢;omega
    rw [List.map_append,List.map_append,qK,qK,ih l2 z2 hle hT hT']
end
noncomputable def lhv (a:List Int) (w:TWorld) (env:List Int) (x:TLit):Bool:=(vl a w env x.2.1==vl a w env x.2.2.1)==x.1
noncomputable def hlv (a:List Int) (w:TWorld) (env:List Int) (c:List TLit):Bool:=c.any (lhv a w env)
def HOL (a:List Int) (w:TWorld) (c:List TLit):Prop:= ∀env,envOK w.1 env=true->hlv a w env c=true
section
variable {a : List Int} (hg : gS a = true) {w : TWorld} (hw : wOK a w = true)
include hg hw
omit hg hw in
theorem zzC {c:List TLit} (h:HOL a w c) (f:List Int->List Int) (hf: ∀env,envOK w.1 env=true-> ∃env',envOK w.1 env'=true∧ ∀t∈tms c,vl a w env (f t)=vl a w env' t):HOL a w (c.map fun x=>(x.1,f x.2.1,f x.2.2.1,())):=by
 intro env he;obtain ⟨env',h1,h2⟩:=hf env he;have h3:=h env' h1;simp only [hlv,List.any_eq_true] at h3 ⊢;obtain ⟨x,hx,hv⟩:=h3;refine ⟨_,qQ.2 ⟨x,hx,rfl⟩,?_⟩;simp only [lhv,h2 x.2.1 (zc3.2 ⟨x,hx,.inl rfl⟩),h2 x.2.2.1 (zc3.2 ⟨x,hx,.inr rfl⟩)];exact hv
omit hw in
theorem zKL (env:List Int) {τ:Int->List Int} (hτ: ∀v,τ v≠ []->Tm a (τ v)) {x:TLit} (hx:litOK a x=true):lhv a w env (x.1,apS τ x.2.1,apS τ x.2.2.1,())=lhv a w (envS a w τ env) x:=by
 obtain ⟨h1,h2⟩:=z8.1 hx;simp only [lhv,zrx hg w env hτ _ x.2.1 (ql _) (zf.1 h1).2,zrx hg w env hτ _ x.2.2.1 (ql _) (zf.1 h2).2]
theorem zzy {c:List TLit} (h:HOL a w c) (hc: ∀x∈c,litOK a x=true) {τ:Int->List Int} (hτ: ∀v,τ v≠ []->Tm a (τ v)):HOL a w (apC τ c):=by
 refine zzC h (apS τ) fun env he=>⟨envS a w τ env,zwR hg w env hτ hw he,fun t ht=>?_⟩
 obtain ⟨x,hx,e⟩:=zc3.1 ht;obtain ⟨h1,h2⟩:=z8.1 (hc x hx);rcases e with rfl | rfl
 ·exact zrx hg w env hτ _ _ (ql _) (zf.1 h1).2
 ·exact zrx hg w env hτ _ _ (ql _) (zf.1 h2).2
end
section
variable {a : List Int}
theorem zIU {n:Int} (h:n<0) (h12: -12<=n):Tm a [n]:=by
 have hb: ¬badN a n:=by unfold badN;omega
 have h4:ar a n=0:=by simp [ar,h]
 simp [Tm,sE,hb,h4]
def renM (M:List Int) (n:Int):Int:=if 0<=n then n else mget (mkM 0 M) n 0
theorem zD8 (n:Int): ∀(m x:List Int) (i:Nat),n∈m->mget (mkM i (m++x)) n 0=mget (mkM i m) n 0
 | [],_,_,h=>by cases h
 | b::m,x,i,h=>by
  simp only [qZ,mkM,mget];split
  ·rfl
  ·rename_i hb
   exact zD8 n m x (i+1) (by
    rcases qz.1 h with q | q
    ·exact absurd q.symm hb
    ·exact q)
theorem zAC {m m':List Int} (h:m <+: m') {n:Int} (hn:0<=n∨n∈m):renM m' n=renM m n:=by
 obtain ⟨x,rfl⟩:=h;unfold renM;split
 ·rfl
 ·rcases hn with q | q
  ·omega
  ·exact zD8 n m x 0 q
theorem zJd (m:List Int) (n:Int):m <+: addN m n:=by
 unfold addN;split
 ·exact List.prefix_append _ _
 ·exact List.prefix_refl _
theorem zBS: ∀(t m:List Int),okM m->(∀n∈t,-12<=n)-> ∃M,okM M∧m <+: M∧(∀n∈t,n<0->n∈M)∧rnm (mkM 0 m) t=(t.map (renM M),mkM 0 M)
 | [],m,hm,_=>⟨m,hm,List.prefix_refl _,by simp,rfl⟩
 | n::r,m,hm,h=>by
  by_cases h0:0<=n
  ·obtain ⟨M,q1,q2,q3,q4⟩:=zBS r m hm (fun n hn=>h n (by simp [hn]));refine ⟨M,q1,q2,fun x hx hn=>?_,?_⟩
   ·rcases qz.1 hx with rfl | hx
    ·omega
    ·exact q3 x hx hn
   ·simp only [rnm,qb h0,q4,qK,renM]
  ·have hn:n<0:=by omega
   obtain ⟨M,q1,q2,q3,q4⟩:=zBS r (addN m n) (hm.add hn (h n (by simp))) (fun n hn=>h n (by simp [hn]));have hmem:=zAP m hn;refine ⟨M,q1,(zJd m n).trans q2,fun x hx hx0=>?_,?_⟩
   ·rcases qz.1 hx with rfl | hx
    ·exact q2.subset hmem
    ·exact q3 x hx hx0
   ·simp only [rnm,qc h0,zCl m hn,q4,qK];rw [zAC q2 (.inr hmem)];simp only [renM,qc h0]
theorem zF5: ∀(ts:List (List Int)) (m:List Int),okM m->(∀t∈ts,∀n∈t,-12<=n)-> ∃M,okM M∧m <+: M∧(∀t∈ts,∀n∈t,n<0->n∈M)∧rnL (mkM 0 m) ts=ts.map (fun t=>t.map (renM M))
 | [],m,hm,_=>⟨m,hm,List.prefix_refl _,by simp,rfl⟩
 | t::r,m,hm,h=>by
  obtain ⟨M1,p1,p2,p3,p4⟩:=zBS t m hm (h t (by simp));obtain ⟨M,q1,q2,q3,q4⟩:=zF5 r M1 p1 (fun u hu=>h u (by simp [hu]));refine ⟨M,q1,p2.trans q2,fun u hu n hn h0=>?_,?_⟩
  ·rcases qz.1 hu with rfl | hu
   ·exact q2.subset (p3 n hn h0)
   ·exact q3 u hu n hn h0
  ·simp only [rnL,p4,q4,qK];congr 1;refine List.map_congr_left fun n hn=>?_
   by_cases h0:0<=n
   ·exact (zAC q2 (.inl h0)).symm
   ·exact (zAC q2 (.inr (p3 n hn (by omega)))).symm
def renS (M:List Int) (v:Int):List Int:=if -1-v∈M then [renM M (-1-v)] else []
theorem zJU {M:List Int} (h:okM M) {n:Int} (hn:n∈M): -12<=renM M n∧renM M n<0:=by
 have h0:=(h.2 n hn).2;obtain ⟨j,hj,e⟩:=zAJ n M 0 hn;have:=h.len;unfold renM;rw [qc (by omega),e];omega
theorem zGa {M:List Int} (h:okM M): ∀v,renS M v≠ []->Tm a (renS M v):=by
 intro v hv;unfold renS at hv ⊢;split at hv
 ·rename_i q;rw [qb q];have:=zJU h q;exact zIU this.2 this.1
 ·exact absurd rfl hv
theorem zFg {M:List Int} (h:okM M): ∀t:List Int,(∀n∈t,n<0->n∈M)->apS (renS M) t=t.map (renM M)
 | [],_=>rfl
 | n::t,hn=>by
  rw [zdg,zFg h t (fun m hm=>hn m (by simp [hm])),qK];by_cases h0:n<0
  ·have hm:=hn n (by simp) h0
   have e:renS M (-1-n)= [renM M n]:=by
    unfold renS;rw [show -1-(-1-n)=n by omega,qb hm]
   rw [zis h0 (by rw [e];simp),e];rfl
  ·rw [zmM (by omega)];simp [renM,show 0<=n by omega]
variable (hg : gS a = true) {w : TWorld} (hw : wOK a w = true)
include hg hw
theorem zK0 {c:List TLit} (h:HOL a w c) (hc: ∀x∈c,litOK a x=true):HOL a w (rnC c):=by
 have hx: ∀t∈tms c,isT a t=true:=by
  intro t ht;obtain ⟨x,hx,e⟩:=zc3.1 ht;obtain ⟨h1,h2⟩:=z8.1 (hc x hx);rcases e with rfl | rfl<;>assumption
 obtain ⟨M,q1,q2,q3,q4⟩:=zF5 (tms c) [] ⟨by simp,by simp⟩ (fun t ht n hn=>((zqM (hx t ht)).2 n hn).1)
 have e:rnC c=c.map fun x=>(x.1,x.2.1.map (renM M),x.2.2.1.map (renM M),()):=by
  unfold rnC;rw [show ([]:List (Int×Int))=mkM 0 [] from rfl,q4,zzB]
 rw [e];refine zzC h (fun t=>t.map (renM M)) fun env he=>⟨envS a w (renS M) env,zwR hg w env (zGa q1) hw he,fun t ht=>?_⟩
 show vl a w env (t.map (renM M))=_;rw [<-zFg q1 t (q3 t ht)];exact zrx hg w env (zGa q1) _ t (ql _) (zf.1 (hx t ht)).2
omit hg hw in
theorem zKd {env:List Int} {x y:TLit} (h:sameL x y=true):lhv a w env x=lhv a w env y:=by
 simp only [sameL,qq,wb,beq_iff_eq,qt] at h;obtain ⟨h1,h2⟩:=h;unfold lhv;rw [h1];rcases h2 with ⟨e1,e2⟩ | ⟨e1,e2⟩
 ·rw [e1,e2]
 ·rw [e1,e2];congr 1;rw [Bool.eq_iff_iff,beq_iff_eq,beq_iff_eq];exact eq_comm
omit hg hw in
theorem zAr (env:List Int): ∀(c o:List TLit),(o.any (lhv a w env) || c.any (lhv a w env))=true->(td o c).any (lhv a w env)=true
 | [],o,h=>by simpa [td] using h
 | x::c,o,h=>by
  simp only [td];split
  ·rename_i hx;refine zAr env c o ?_;simp only [List.any_cons,wb] at h ⊢;rcases h with h | h | h
   ·exact .inl h
   ·rcases hx with ⟨e1,e2⟩ | hx
    ·unfold lhv at h;rw [e1,e2] at h;simp at h
    ·simp only [List.any_eq_true] at hx;obtain ⟨y,hy,hs⟩:=hx;refine .inl (List.any_eq_true.2 ⟨y,hy,?_⟩);rw [<-zKd hs];exact h
   ·exact .inr h
  ·refine zAr env c (o++ [x]) ?_;simp only [List.any_append,List.any_cons,List.any_nil,Bool.or_false,wb] at h ⊢;rcases h with h | h | h
   ·exact .inl (.inl h)
   ·exact .inl (.inr h)
   ·exact .inr h
theorem zvw {c:List TLit} (h:HOL a w c) (hc: ∀x∈c,litOK a x=true):HOL a w (outC c):=by
 refine zK0 hg hw (fun env he=>zAr env c [] (by simpa [hlv] using h env he)) fun x hx=>?_
 rcases zwI c [] x hx with q | q
 ·cases q
 ·exact hc x q
end
def shS (b v:Int):List Int:=if -12<= -1-v-b∧ -1-v-b<0 then [-1-v-b] else []
theorem zFh {a:List Int} (b:Int): ∀v,shS b v≠ []->Tm a (shS b v):=by
 intro v hv;unfold shS at hv ⊢;split at hv
 ·rename_i q;rw [qb q];exact zIU q.2 q.1
 ·exact absurd rfl hv
theorem zCB {b:Int} (hb:0<=b): ∀t:List Int,(∀n∈t.map (shn b),-12<=n)->apS (shS b) t=t.map (shn b)
 | [],_=>rfl
 | n::t,h=>by
  rw [zdg,zCB hb t (fun m hm=>h m (by simp only [qK];exact qn _ hm)),qK];by_cases h0:n<0
  ·have h1:=h (shn b n) (by simp);simp only [shn,qb h0] at h1
   have e:shS b (-1-n)= [n-b]:=by
    unfold shS;rw [show -1-(-1-n)-b=n-b by omega,qb (by omega)]
   rw [zis h0 (by rw [e];simp),e];simp only [shn,qb h0];rfl
  ·rw [zmM (by omega)];simp [shn,h0]
theorem zzj {a:List Int} {w:TWorld} {env:List Int} (x:TLit) (k:Int):lhv a w env x=((vl a w env (sd x k).1==vl a w env (sd x k).2)==x.1):=by
 unfold lhv sd;split
 ·rfl
 ·congr 1;rw [Bool.eq_iff_iff,beq_iff_eq,beq_iff_eq];exact eq_comm
section
variable {a : List Int} (hg : gS a = true) {w : TWorld} (hw : wOK a w = true)
include hg hw
theorem zH9 {c d:List TLit} (h:HOL a w d) (hd: ∀x∈d,litOK a x=true) (hall:(apartC c d).all (litOK a)=true):HOL a w (apartC c d):=by
 have hb:0<=far (upTo (inV (tms c))):=(zCK (fun v hv=>by have:=zjz.1 hv;omega)).1;have hx:=List.all_eq_true.1 hall;show HOL a w (d.map fun x=>(x.1,(fun t:List Int=>t.map (shn (far (upTo (inV (tms c)))))) x.2.1,(fun t:List Int=>t.map (shn (far (upTo (inV (tms c)))))) x.2.2.1,()));refine zzC h _ fun env he=>⟨envS a w (shS (far (upTo (inV (tms c))))) env,zwR hg w env (zFh _) hw he,fun t ht=>?_⟩
 obtain ⟨x,hxd,e⟩:=zc3.1 ht;obtain ⟨h1,h2⟩:=z8.1 (hd x hxd);obtain ⟨h3,h4⟩:=z8.1 (hx _ (qQ.2 ⟨x,hxd,rfl⟩));show vl a w env (t.map (shn (far (upTo (inV (tms c))))))=_;rcases e with rfl | rfl
 ·rw [<-zCB hb _ (fun n hn=>((zqM h3).2 n hn).1)];exact zrx hg w env (zFh _) _ _ (ql _) (zf.1 h1).2
 ·rw [<-zCB hb _ (fun n hn=>((zqM h4).2 n hn).1)];exact zrx hg w env (zFh _) _ _ (ql _) (zf.1 h2).2
omit hw in
theorem zJ3 (env:List Int) {y:TLit} {ot:Int} {p r l z:List Int} (hs:(sd y ot).1=l++(p++z)) (hT:Tm a (l++(p++z))) (hp:Tm a p) (hr:Tm a r) (hv:vl a w env p=vl a w env r):lhv a w env (newL ot y (l++(r++z)))=lhv a w env y:=by
 have e:=zF1 hg w env hp hr hv _ l z (ql _) hT (zw3 hg hT hp hr);unfold newL;unfold sd at hs;split
 ·rename_i h0;rw [qb h0] at hs;simp only [lhv];rw [hs,e]
 ·rename_i h0;rw [qc h0] at hs;simp only [lhv];rw [hs,e]
theorem zIY {c d:List TLit} {y:TWay} {out:List TLit} (hs:SupOK a c d y out) (hc: ∀x∈c,litOK a x=true) (hd: ∀x∈d,litOK a x=true) (h1:HOL a w c) (h2:HOL a w d):HOL a w out:=by
 obtain ⟨I,J,at',hI,hJ,τ,p,z,e1,e2,hpos,hot,hτ,hall,hdrop,hp,hun,hout,_,_⟩:=hs;have hTτ: ∀v,τ v≠ []->Tm a (τ v):=fun v h=>(zf.1 (hτ.1 v h).1).2
 have hx:=List.all_eq_true.1 hall;have h3:=zzy hg hw h1 hc hTτ;have h4:=zzy hg hw (zH9 hg hw h2 hd hall) hx hTτ;have lcb:(apC τ c).length=c.length:=by simp [apC]
 have leb:(apC τ (apartC c d)).length=(apartC c d).length:=by simp [apC]
 have hI':I<(apC τ c).length:=by omega
 have hJ':J<(apC τ (apartC c d)).length:=by omega
 have hcT:=zkC (hc _ (qi hI)) y.2.1;have huT:=zkC (hx _ (qi hJ)) y.2.2.2.1;have hl2:=(zf.1 hcT.1).2;have hr2:=(zf.1 hcT.2).2;have hu2:=(zf.1 huT.1).2;have hu':(sd (apartC c d)[J] y.2.2.2.1).1=(sd (apartC c d)[J] y.2.2.2.1).1.take at'++(p++z):=by rw [<-hdrop,wa]
 intro env he;have k1:=h3 env he;have k2:=h4 env he;simp only [hlv,List.any_eq_true] at k1 k2 ⊢;obtain ⟨x1,m1,v1⟩:=k1;obtain ⟨x2,m2,v2⟩:=k2;obtain ⟨i,hi,rfl⟩:=qH.1 m1;obtain ⟨j,hj,rfl⟩:=qH.1 m2;rw [hout];by_cases hiI:i=I
 ·subst hiI;by_cases hjJ:j=J
  ·subst hjJ;have q1:=zzj (a:=a) (w:=w) (env:=env) (apC τ c)[i] y.2.1;have q2:(apC τ c)[i].1=true:=by simpa [apC] using hpos
   rw [v1,q2,ztv τ c hI hi y.2.1] at q1;have q3:vl a w env (apS τ (sd c[i] y.2.1).1)=vl a w env (apS τ (sd c[i] y.2.1).2):=by simpa using q1.symm
   rw [hun] at q3;refine ⟨_,qB _ (qH.2 ⟨j,by simpa using hj,List.getElem_set_self ..⟩),?_⟩;rw [show apS τ ((sd (apartC c d)[j] y.2.2.2.1).1.take at'++(sd c[i] y.2.1).2++z)=apS τ ((sd (apartC c d)[j] y.2.2.2.1).1.take at')++(apS τ (sd c[i] y.2.1).2++apS τ z) by rw [zkP,zkP,qE]]
   have hs':(sd (apC τ (apartC c d))[j] y.2.2.2.1).1=apS τ ((sd (apartC c d)[j] y.2.2.2.1).1.take at')++(apS τ p++apS τ z):=by
    rw [ztv τ (apartC c d) hJ hj y.2.2.2.1,<-zkP,<-zkP,<-hu']
   rw [zJ3 hg env hs' (by rw [<-zkP,<-zkP,<-hu'];exact zkt hg hTτ hu2) (zkt hg hTτ hp) (zkt hg hTτ hr2) q3];exact v2
  ·refine ⟨_,qB _ (qH.2 ⟨j,by simpa using hj,List.getElem_set_ne (Ne.symm hjJ) ..⟩),v2⟩
 ·refine ⟨_,qw _ ?_,v1⟩;rw [List.mem_eraseIdx_iff_getElem];exact ⟨i,hi,hiI,rfl⟩
end
def Snd (a:List Int) (c x:List TLit):Prop:= ∀w:TWorld,wOK a w=true->HOL a w c->HOL a w x
section
variable {a : List Int} (hg : gS a = true) {w : TWorld} (hw : wOK a w = true)
include hg hw
theorem zIK {c:List TLit} {τ:Int->List Int} (hτ:okU a τ) (hc: ∀x∈c,litOK a x=true) {n:Nat} (hn:n<c.length) (h2:c[n].1=false) (hun:apS τ c[n].2.1=apS τ c[n].2.2.1) (h:HOL a w c):HOL a w ((apC τ c).eraseIdx n):=by
 have hTτ: ∀v,τ v≠ []->Tm a (τ v):=fun v h=>(zf.1 (hτ.1 v h).1).2
 have h3:=zzy hg hw h hc hTτ;intro env he;have k1:=h3 env he;simp only [hlv,List.any_eq_true] at k1 ⊢;obtain ⟨x,m1,v1⟩:=k1;obtain ⟨i,hi,rfl⟩:=qH.1 m1;by_cases hin:i=n
 ·subst hin;simp only [apC,List.getElem_map,lhv,h2,hun] at v1;simp at v1
 ·exact ⟨_,List.mem_eraseIdx_iff_getElem.2 ⟨i,hi,hin,rfl⟩,v1⟩
theorem zIB {c:List TLit} {τ:Int->List Int} (hτ:okU a τ) (hc: ∀x∈c,litOK a x=true) {n m:Nat} (hn:n<c.length) (hm:m<c.length) (hne:n≠m) (sc ot:Int) (h1:c[n].1=true) (h2:c[m].1=true) (hun:apS τ (sd c[n] sc).1=apS τ (sd c[m] ot).1) (h:HOL a w c):HOL a w ((apC τ c).set n (false,apS τ (sd c[n] sc).2,apS τ (sd c[m] ot).2,())):=by
 have hTτ: ∀v,τ v≠ []->Tm a (τ v):=fun v h=>(zf.1 (hτ.1 v h).1).2
 have h3:=zzy hg hw h hc hTτ;have lcb:(apC τ c).length=c.length:=by simp [apC]
 have hn':n<(apC τ c).length:=by omega
 have hm':m<(apC τ c).length:=by omega
 intro env he;have k1:=h3 env he;simp only [hlv,List.any_eq_true] at k1 ⊢;obtain ⟨x,m1,v1⟩:=k1;obtain ⟨i,hi,rfl⟩:=qH.1 m1;by_cases hin:i=n
 ·subst hin;have q1:=zzj (a:=a) (w:=w) (env:=env) (apC τ c)[i] sc;have p1:(apC τ c)[i].1=true:=by simpa [apC] using h1
  rw [v1,p1,ztv τ c hn hi sc] at q1;have q3:vl a w env (apS τ (sd c[i] sc).1)=vl a w env (apS τ (sd c[i] sc).2):=by simpa using q1.symm
  by_cases e:vl a w env (apS τ (sd c[i] sc).2)=vl a w env (apS τ (sd c[m] ot).2)
  ·refine ⟨(apC τ c)[m],qH.2 ⟨m,by simpa using hm',List.getElem_set_ne hne _⟩,?_⟩;have p2:(apC τ c)[m].1=true:=by simpa [apC] using h2
   rw [zzj (apC τ c)[m] ot,p2,ztv τ c hm hm' ot];simp only [beq_true];rw [<-hun,q3,e];simp
  ·refine ⟨_,qH.2 ⟨i,by simpa using hi,List.getElem_set_self _⟩,?_⟩;simp only [lhv];simpa using e
 ·exact ⟨(apC τ c)[i],qH.2 ⟨i,by simpa using hi,List.getElem_set_ne (Ne.symm hin) _⟩,v1⟩
end
section
variable {a : List Int} (hg : gS a = true) {w : TWorld} (hw : wOK a w = true)
include hg hw
theorem zHY {units:List TLit} (hu: ∀x∈units,litOK a x=true∧x.1=true∧HOL a w [x]) {t t':List Int} (ht:Tm a t) (h:RwS a units t t') (env:List Int) (he:envOK w.1 env=true):Tm a t'∧vl a w env t=vl a w env t':=by
 obtain ⟨x,n,τ,p,l,z,hx,hτ,hp,e1,e2,e3⟩:=h;obtain ⟨hl,hpos,hH⟩:=hu x hx;have hTτ: ∀v,τ v≠ []->Tm a (τ v):=fun v h=>(zf.1 (hτ v h)).2
 obtain ⟨s1,s2⟩:=zkC hl n;have hr:Tm a (apS τ (sd x n).2):=zkt hg hTτ (zf.1 s2).2
 have hv:vl a w env p=vl a w env (apS τ (sd x n).2):=by
  rw [<-e3,zrx hg w env hTτ _ _ (ql _) (zf.1 s1).2,zrx hg w env hTτ _ _ (ql _) (zf.1 s2).2];have:=hH (envS a w τ env) (zwR hg w env hTτ hw he);simp only [hlv,List.any_cons,List.any_nil,Bool.or_false] at this;rw [zzj x n,hpos] at this;simpa using this
 rw [e1] at ht;have hT':=zw3 hg ht hp hr;refine ⟨by rw [e2];exact hT',?_⟩;rw [e1,e2];exact zF1 hg w env hp hr hv _ l z (ql _) ht hT'
theorem zH3 {units:List TLit} (hu: ∀x∈units,litOK a x=true∧x.1=true∧HOL a w [x]) {t T:List Int} (h:RwM a units t T):Tm a t-> ∀env,envOK w.1 env=true->vl a w env t=vl a w env T:=by
 induction h with
 | refl t=>intro _ _ _;rfl
 | step t t' T h1 _ ih=>
  intro ht env he;obtain ⟨q1,q2⟩:=zHY hg hw hu ht h1 env he;rw [q2];exact ih q1 env he
theorem zLP {units:List TLit} (hu: ∀x∈units,litOK a x=true∧x.1=true∧HOL a w [x]) {c:List TLit} (hc: ∀x∈c,litOK a x=true) (h:HOL a w c) (f:List Int->List Int) (hf: ∀t∈tms c,RwM a units t (f t)):HOL a w (c.map fun x=>(x.1,f x.2.1,f x.2.2.1,())):=by
 refine zzC h f fun env he=>⟨env,he,fun t ht=>?_⟩
 obtain ⟨x,hx,e⟩:=zc3.1 ht;obtain ⟨h1,h2⟩:=z8.1 (hc x hx);refine (zH3 hg hw hu (hf t ht) ?_ env he).symm;rcases e with rfl | rfl
 ·exact (zf.1 h1).2
 ·exact (zf.1 h2).2
end
theorem zAY (s:TSign) (hg:gS s.1=true) (c d:List TLit) (hc:clOK s.1 c=true) (hd:clOK s.1 d=true) (i sc j ot p0:Int): ∃r,zbY M s c d (i,sc,j,ot,p0,())=some r∧zc5 M s c d (i,sc,j,ot,p0,())=some r∧clOK s.1 r.1.1=true∧((r.1.2.1=0∨r.1.2.1=5)-> ∀w:TWorld,wOK s.1 w=true->HOL s.1 w c->HOL s.1 w d->HOL s.1 w r.1.1):=by
 obtain ⟨r,r1,r2,r3⟩:=zLH s hg c d hc hd i sc j ot p0;rcases r3 with ⟨e,n0,n5⟩ | ⟨_,out,e,hS⟩
 ·exact ⟨r,r1,r2,by rw [e];rfl,fun q=>(q.elim n0 n5).elim⟩
 ·have hS':=hS;obtain ⟨_,_,_,_,_,_,_,_,_,_,_,_,_,_,_,_,_,_,h8,ho⟩:=hS';refine ⟨r,r1,r2,by rw [e];exact zuY h8 ho,fun _ w hw h1 h2=>?_⟩;rw [e];exact zvw hg hw (zIY hg hw hS (zm.1 hc).2 (zm.1 hd).2 h1 h2) ho
theorem zyQ (c:List TLit) (b:Bool) (n:Nat) (hn:n<c.length):zdW M c n b=some ((c[n].1==b,()),()):=by
 apply zpP;simp only [zkl];rw [qb (by simp),qb (by simpa using hn),zd hn];simp
theorem zzw (c:List TLit) (b:Bool) (i:Int) (h: ¬(0<=i∧i<(c.length:Int))):zdW M c i b=some ((false,()),()):=by
 apply zpP;simp only [zkl];by_cases h0:0<=i
 ·rw [qb (by simpa using h0),qc (by simp;omega)]
 ·rw [qc (by simpa using h0)]
theorem zCQ {a:List Int} {τ:Int->List Int} (hτ:okU a τ) {c:List TLit} (hc: ∀x∈c,litOK a x=true): ∀x∈apC τ c,smL x:=by
 intro x hx;obtain ⟨y,hy,rfl⟩:=qQ.1 hx;have:=zbt (hc y hy);have b1:=zkp (σ:=τ) (fun v=>by have:=hτ.len v;omega) y.2.1;have b2:=zkp (σ:=τ) (fun v=>by have:=hτ.len v;omega) y.2.2.1;exact ⟨by simp only;omega,by simp only;omega⟩
theorem zyz (s:TSign) (hg:gS s.1=true) (c:List TLit) (hc:clOK s.1 c=true) (i:Int): ∃r,zeD M s c i=some r∧zdU M s c i=some r∧clOK s.1 r.1.1=true∧((r.1.2.1=0∨r.1.2.1=5)->Snd s.1 c r.1.1):=by
 obtain ⟨c1,c2⟩:=zm.1 hc;have fail: ∀k:Int,(k≠0∧k≠5)->zeD M s c i=some (([],k,()),())->zdU M s c i=some (([],k,()),())-> ∃r,zeD M s c i=some r∧zdU M s c i=some r∧clOK s.1 r.1.1=true∧((r.1.2.1=0∨r.1.2.1=5)->Snd s.1 c r.1.1):=fun k h0 h1 h2=>⟨_,h1,h2,rfl,fun q=>(q.elim h0.1 h0.2).elim⟩
 have lin:z6 M i 0 (IntKind.i64.wrap ((c.length:Int)-1))=some ((decide (0<=i)&&decide (i<=(c.length:Int)-1),()),()):=by rw [w64 (by omega) (by omega),zfw]
 by_cases h1:0<=i∧i<(c.length:Int)
 case neg=>
  have e:(decide (0<=i)&&decide (i<=(c.length:Int)-1))=false:=by
   by_cases h0:0<=i
   ·rw [qp h0,qA (fun q=>h1 ⟨h0,by omega⟩)];rfl
   ·rw [qA h0];rfl
  rw [e] at lin;refine fail 1 (by decide) (zgM _ _ _ ?_) (zjt _ _ _ ?_)
  ·simp only [zdh,zzw c false i h1,qa];rfl
  ·simp only [ze3,lin,qa];rfl
 case pos=>
 obtain ⟨n,rfl⟩: ∃n:Nat,i=(n:Int):=⟨i.toNat,by omega⟩;have hn:n<c.length:=by omega
 have hl:=zyQ c false n hn;have hci:=zd hn;rw [qp h1.1,qp (by omega),Bool.true_and] at lin
 cases h2:c[n].1 with
 | true=>
  rw [h2] at hl;refine fail 1 (by decide) (zgM _ _ _ ?_) (zjt _ _ _ ?_)
  ·simp only [zdh,hl,qa];rfl
  ·simp only [ze3,lin,hci,h2,qa];rfl
 | false=>
 rw [h2] at hl;have hT:=z8.1 (c2 _ (qi hn));obtain ⟨ru,u1,u2,u3⟩:=zBU s hg c[n].2.1 c[n].2.2.1 hT.1 hT.2
 cases h9:ru.1.2.1 with
 | false=>
  refine fail 3 (by decide) (zgM _ _ _ ?_) (zjt _ _ _ ?_)
  ·simp only [zdh,hl,hci,za,u1,h9,qa];rfl
  ·simp only [ze3,lin,hci,h2,za,u2,h9,qa];rfl
 | true=>
 obtain ⟨τ,hτ,ht,hun,_⟩:=u3 h9;have lτ: ∀v,(τ v).length<=100000:=fun v=>by have:=hτ.len v;omega
 have acI:=zpS τ lτ c (by omega) (fun x hx=>zbt (c2 x hx));have acS:=zs9 τ lτ c (by omega) (fun x hx=>zbt (c2 x hx));have kc:=zxt hg hτ c1 c2;have lcb:(apC τ c).length=c.length:=by simp [apC]
 have ccb:=zeV s hg (apC τ c) (by omega) (zCQ hτ c2);rw [kc] at ccb
 cases f1:fitT τ (tms c) with
 | false=>
  rw [f1] at acI ccb;refine fail 4 (by decide) (zgM _ _ _ ?_) (zjt _ _ _ ?_)
  ·simp only [zdh,hl,hci,za,u1,h9,ht,acI,qa];rfl
  ·simp only [ze3,lin,hci,h2,za,u2,h9,ht,acS,ccb,qa];rfl
 | true=>
 rw [f1] at acI ccb kc;rw [qb rfl] at acI;have kc':=(zm.1 kc).2;have hI':n<(apC τ c).length:=by omega
 obtain ⟨x1,m1,m1'⟩:=zv2 (apC τ c) (by omega) (fun x hx=>⟨zbA (z8.1 (kc' x hx)).1,zbA (z8.1 (kc' x hx)).2⟩) n hI';have hOl:((apC τ c).eraseIdx n).length<=8:=by rw [List.length_eraseIdx_of_lt hI'];omega
 have hOk: ∀x∈(apC τ c).eraseIdx n,litOK s.1 x=true:=fun x hx=>kc' x (List.mem_of_mem_eraseIdx hx)
 have limO: ∀x∈(apC τ c).eraseIdx n,x.2.1.length<=1000∧x.2.2.1.length<=1000:=fun x hx=>by have:=zbt (hOk x hx);omega
 have inO:=zzb _ (by omega) limO;have outS:=(zle _ (by omega) limO).2;refine ⟨((outC ((apC τ c).eraseIdx n),(if x1=true then 0 else 5),()),()),zgM _ _ _ ?_,zjt _ _ _ ?_,zuY hOl hOk,fun _ w hw h=>zvw hg hw (zIK hg hw hτ c2 hn h2 hun h) hOk⟩
 ·simp only [zdh,hl,hci,za,u1,h9,ht,acI,qa,qm,qg,qe,wc];rw [zb (by omega),qb (by omega),qb (by omega)]
  have hcat:=p_cL [(apC τ c).take n,(apC τ c).drop (n+1)] (by
   intro y hy;simp only [qz,List.not_mem_nil,or_false] at hy;rcases hy with rfl | rfl
   ·simp;omega
   ·simp;omega) (by simp) (by simp;omega)
  have hfl: [(apC τ c).take n,(apC τ c).drop (n+1)].flatten=(apC τ c).eraseIdx n:=by
   rw [<-zvk];simp
  rw [hfl] at hcat;simp only [qo,Int.toNat_zero,qk,List.take_length];rw [hcat];simp only [qa,m1,inO]
 ·simp only [ze3,lin,hci,h2,za,u2,h9,ht,acS,ccb,qa,qm,qg,qe];rw [zb (by omega),qb (by omega),qb (by simp;omega),qb (by omega)];simp only [qo,Int.toNat_zero,qk,List.take_length,qC];rw [qb (by simp;omega),zvk,m1',outS];simp only [qa];cases x1<;>rfl
theorem zJo (c:List TLit) (hl:c.length<=1000) (hc: ∀x∈c,smL x):zl2 M c=some ((c,()),()):=by
 apply zyr;have:=zxZ c hl hc c.length 0 (by omega) [] rfl;rw [e0x] at this;simp only [zrM,this,qa,qd,qC,qk]
theorem zAo (s:TSign) (hg:gS s.1=true) (c:List TLit) (hc:clOK s.1 c=true) (i sc j ot p0:Int): ∃r,zfn M s c (i,sc,j,ot,p0,())=some r∧zei M s c (i,sc,j,ot,p0,())=some r∧clOK s.1 r.1.1=true∧((r.1.2.1=0∨r.1.2.1=5)->Snd s.1 c r.1.1):=by
 obtain ⟨c1,c2⟩:=zm.1 hc;have fail: ∀k:Int,(k≠0∧k≠5)->zfn M s c (i,sc,j,ot,p0,())=some (([],k,()),())->zei M s c (i,sc,j,ot,p0,())=some (([],k,()),())-> ∃r,zfn M s c (i,sc,j,ot,p0,())=some r∧zei M s c (i,sc,j,ot,p0,())=some r∧clOK s.1 r.1.1=true∧((r.1.2.1=0∨r.1.2.1=5)->Snd s.1 c r.1.1):=fun k h0 h1 h2=>⟨_,h1,h2,rfl,fun q=>(q.elim h0.1 h0.2).elim⟩
 have lc:=zzF c (by omega) i sc;have ld:=zzF c (by omega) j ot;by_cases h1:0<=i∧i<(c.length:Int)
 case neg=>
  have e:(decide (0<=i)&&decide (i<(c.length:Int))&&is01 sc)=false:=by
   by_cases h0:0<=i
   ·rw [qp h0,qA (fun q=>h1 ⟨h0,q⟩)];rfl
   ·rw [qA h0];rfl
  rw [e] at lc;refine fail 1 (by decide) (zfy _ _ _ ?_) (zid _ _ _ ?_)
  ·simp only [zcI,zzw c true i h1,qa];rfl
  ·simp only [zek,lc,qa];rfl
 case pos=>
 obtain ⟨n,rfl⟩: ∃n:Nat,i=(n:Int):=⟨i.toNat,by omega⟩;have hn:n<c.length:=by omega
 have hl:=zyQ c true n hn;have hci:=zd hn;rw [qp h1.1,qp h1.2,Bool.true_and,Bool.true_and] at lc;by_cases h4:0<=j∧j<(c.length:Int)
 case neg=>
  have e:(decide (0<=j)&&decide (j<(c.length:Int))&&is01 ot)=false:=by
   by_cases h0:0<=j
   ·rw [qp h0,qA (fun q=>h4 ⟨h0,q⟩)];rfl
   ·rw [qA h0];rfl
  rw [e] at ld;refine fail 1 (by decide) (zfy _ _ _ ?_) (zid _ _ _ ?_)
  ·simp only [zcI,hl,zzw c true j h4,qa];cases (c[n].1==true)<;>rfl
  ·simp only [zek,lc,ld,qa];cases is01 sc<;>rfl
 case pos=>
 obtain ⟨m,rfl⟩: ∃m:Nat,j=(m:Int):=⟨j.toNat,by omega⟩;have hm:m<c.length:=by omega
 have hl2:=zyQ c true m hm;have hcj:=zd hm;rw [qp h4.1,qp h4.2,Bool.true_and,Bool.true_and] at ld;have si:=zxq sc;have so:=zxq ot;by_cases hgood:(c[n].1&&(c[m].1&&(is01 sc&&(is01 ot&&(!((n:Int)==(m:Int))&& !(p0 !=0))))))=true
 case neg=>
  refine fail 1 (by decide) (zfy _ _ _ ?_) (zid _ _ _ ?_)
  ·simp only [zcI,hl,hl2,si,so,qa]
   revert hgood
   cases c[n].1
   ·intro _;rfl
   cases c[m].1
   ·intro _;rfl
   cases is01 sc
   ·cases ((n:Int)==(m:Int))<;>(intro _;rfl)
   cases is01 ot
   ·cases ((n:Int)==(m:Int))<;>(intro _;rfl)
   cases ((n:Int)==(m:Int))
   ·cases (p0 !=0)
    ·intro h;exact absurd rfl h
    ·intro _;rfl
   ·intro _;rfl
  ·simp only [zek,lc,ld,hci,hcj,qa]
   revert hgood
   cases is01 sc
   ·intro _;rfl
   cases is01 ot
   ·intro _;rfl
   cases ((n:Int)==(m:Int))
   ·cases (p0 !=0)
    ·cases h5:c[n].1
     ·intro _;rfl
     ·cases h6:c[m].1
      ·intro _;rfl
      ·intro h;exact absurd rfl h
    ·intro _;rfl
   ·intro _;rfl
 case pos=>
 simp only [qq,Bool.not_eq_true'] at hgood;obtain ⟨q1,q2,q3,q4,q5,q6⟩:=hgood;rw [q1] at hl;rw [q2] at hl2;rw [q3] at lc si;rw [q4] at ld so;obtain ⟨sI1,sI2⟩:=zkm c[n] sc;obtain ⟨sJ1,sJ2⟩:=zkm c[m] ot;have tI:=zkC (c2 _ (qi hn)) sc;have tJ:=zkC (c2 _ (qi hm)) ot;obtain ⟨ru,u1,u2,u3⟩:=zBU s hg (sd c[n] sc).1 (sd c[m] ot).1 tI.1 tJ.1;have lI:((true,c[n].2.1,c[n].2.2):TLit)=c[n]:=by rw [<-q1]
 have lJ:((true,c[m].2.1,c[m].2.2):TLit)=c[m]:=by rw [<-q2]
 have sI2t:zbs M (true,c[n].2.1,c[n].2.2) sc=some (((sd c[n] sc).1,(sd c[n] sc).2,()),()):=by rw [lI];exact sI2
 have sJ2t:zbs M (true,c[m].2.1,c[m].2.2) ot=some (((sd c[m] ot).1,(sd c[m] ot).2,()),()):=by rw [lJ];exact sJ2
 cases h9:ru.1.2.1 with
 | false=>
  refine fail 3 (by decide) (zfy _ _ _ ?_) (zid _ _ _ ?_)
  ·simp only [zcI,hl,hl2,si,so,q5,q6,hci,hcj,zg,sI1,sJ1,za,u1,h9,qa];rfl
  ·simp only [zek,lc,ld,q5,q6,hci,hcj,q1,q2,zg,sI2t,sJ2t,za,u2,h9,qa];rfl
 | true=>
 obtain ⟨τ,hτ,ht,hun,_⟩:=u3 h9;have lτ: ∀v,(τ v).length<=100000:=fun v=>by have:=hτ.len v;omega
 have acI:=zpS τ lτ c (by omega) (fun x hx=>zbt (c2 x hx));have acS:=zs9 τ lτ c (by omega) (fun x hx=>zbt (c2 x hx));have kc:=zxt hg hτ c1 c2;have lcb:(apC τ c).length=c.length:=by simp [apC]
 have ccb:=zeV s hg (apC τ c) (by omega) (zCQ hτ c2);rw [kc] at ccb
 cases f1:fitT τ (tms c) with
 | false=>
  rw [f1] at acI ccb;refine fail 4 (by decide) (zfy _ _ _ ?_) (zid _ _ _ ?_)
  ·simp only [zcI,hl,hl2,si,so,q5,q6,hci,hcj,zg,sI1,sJ1,za,u1,h9,ht,acI,qa];rfl
  ·simp only [zek,lc,ld,q5,q6,hci,hcj,q1,q2,zg,sI2t,sJ2t,za,u2,h9,ht,acS,ccb,qa];rfl
 | true=>
 rw [f1] at acI ccb kc;rw [qb rfl] at acI;have kc':=(zm.1 kc).2;have hI':n<(apC τ c).length:=by omega
 have hJ':m<(apC τ c).length:=by omega
 have sdI:=ztv τ c hn hI' sc;have sdJ:=ztv τ c hm hJ' ot;obtain ⟨x1,m1,m1'⟩:=zv2 (apC τ c) (by omega) (fun x hx=>⟨zbA (z8.1 (kc' x hx)).1,zbA (z8.1 (kc' x hx)).2⟩) n hI';have kI:=zkC (kc' _ (qi hI')) sc;have kJ:=zkC (kc' _ (qi hJ')) ot;rw [sdI] at kI;rw [sdJ] at kJ;have b1:=zB5 _ _ (zbA kI.1) (zbA kI.2);simp only at b1;generalize hNL:((false,apS τ (sd c[n] sc).2,apS τ (sd c[m] ot).2,()):TLit)=NL;have hOl:((apC τ c).set n NL).length<=8:=by rw [List.length_set];omega
 have hOk: ∀x∈(apC τ c).set n NL,litOK s.1 x=true:=by
  intro x hx;rcases List.mem_or_eq_of_mem_set hx with hx | rfl
  ·exact kc' x hx
  ·rw [<-hNL];exact z8.2 ⟨kI.2,kJ.2⟩
 have limO: ∀x∈(apC τ c).set n NL,x.2.1.length<=1000∧x.2.2.1.length<=1000:=fun x hx=>by have:=zbt (hOk x hx);omega
 have inO:=zzb _ (by omega) limO;have outS:=(zle _ (by omega) limO).2;have cin:=zd hI';have cjn:=zd hJ';obtain ⟨z1,_⟩:=zkm (apC τ c)[n] sc;obtain ⟨z2,_⟩:=zkm (apC τ c)[m] ot;rw [sdI] at z1;rw [sdJ] at z2;simp only at z1 z2;have li:=zf.1 tI.1;have ri:=zf.1 tI.2;have rj:=zf.1 tJ.2;have lS:=zfZ _ _ (zeJ τ) lτ (sd c[n] sc).1 (by omega) (zbA tI.1).2;have rS:=zfZ _ _ (zeJ τ) lτ (sd c[n] sc).2 (by omega) (zbA tI.2).2;have r2S:=zfZ _ _ (zeJ τ) lτ (sd c[m] ot).2 (by omega) (zbA tJ.2).2;have ow:=zJo (apC τ c) (by omega) (zCQ hτ c2);have hget:(apC τ c)[n]?=some (apC τ c)[n]:=qu hI';refine ⟨((outC ((apC τ c).set n NL),(if (ovr (apS τ (sd c[n] sc).1) (apS τ (sd c[n] sc).2)&&x1)=true then 0 else 5),()),()),zfy _ _ _ ?_,zid _ _ _ ?_,zuY hOl hOk,fun _ w hw h=>zvw hg hw (by rw [<-hNL];exact zIB hg hw hτ c2 hn hm (fun q=>by simp [q] at q5) sc ot q1 q2 hun h) hOk⟩
 ·simp only [zcI,hl,hl2,si,so,q5,q6,hci,hcj,zg,sI1,sJ1,za,u1,h9,ht,acI,cin,cjn,z1,z2,hget,b1.1,hNL,qo,m1,inO,qa,qm,Bool.not_not,qg,qe,qf,wc];rw [qb (by omega),qb (by omega)];cases ovr (apS τ (sd c[n] sc).1) (apS τ (sd c[n] sc).2)<;>cases x1<;>rfl
 ·simp only [zek,lc,ld,q5,q6,hci,hcj,q1,q2,zg,sI2t,sJ2t,za,u2,h9,ht,acS,ccb,ow,lS,rS,r2S,hget,b1.2,hNL,qo,m1',outS,qa,qm,qg,qe,qf];rw [qb (by omega)];cases ovr (apS τ (sd c[n] sc).1) (apS τ (sd c[n] sc).2)<;>cases x1<;>rfl
end Go.Proofs.YtchkojfhcdcnmaaGreatMd.Ev
