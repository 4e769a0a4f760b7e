/- Texts laid together: EvLc, EvRow, EvCl, EvDe, EvWt; no condition but those that each theorem names. -/
import Derived.Test.YtchkojfhcdcnmaaGreatMdEvLm
import Derived.Carry
import Derived.WalkKit
import Derived.Lib.Walk
import Derived.Lib.SliceRun
import Derived.Maps.AppendAt
import Derived.Lib.AppendZeros
import Derived.Shelf.SlicesE.Delete
namespace Go.Proofs.YtchkojfhcdcnmaaGreatMd.Ev
open Go
noncomputable section
variable {E : Env} {R S α β : Type}
theorem zCp (c:C) (s:Sto) (K:(e:Ty)->List e.den->List Nat->Option R) (G:R->Option S):(getSl c s K).bind G=getSl c s (fun e x m=>(K e x m).bind G):=by
 unfold getSl;repeat' (first | rfl | split)
theorem zLN (t:Option TypeDesc) (c:C) (s:Sto) (K:Int->List Nat->Option R) (G:R->Option S):(lenC t c s K).bind G=lenC t c s (fun x m=>(K x m).bind G):=by
 unfold lenC;repeat' (first | rfl | split | rw [zCp])
theorem zII (c:C) (s:Sto) (K:List C->List Nat->Option R) (G:R->Option S):(cellsAt c s K).bind G=cellsAt c s (fun x m=>(K x m).bind G):=by
 unfold cellsAt;repeat' (first | rfl | split | rw [we])
theorem zL5 (c:C) (s:Sto) (K:(e:Ty)->List e.den->List Nat->Option R) (G:R->Option S):(srcK c s K).bind G=srcK c s (fun e x m=>(K e x m).bind G):=by
 unfold srcK;repeat' (first | rfl | split | rw [zCp])
theorem zJZ (op:BinOp) (k:IntKind) (x y:Int) (K:C->Option R) (G:R->Option S):(binInt op k x y K).bind G=binInt op k x y (fun c=>(K c).bind G):=by
 unfold binInt;repeat' (first | rfl | split)
theorem zJ9 (op:BinOp) (x y:List UInt8) (K:C->Option R) (G:R->Option S):(binStr op x y K).bind G=binStr op x y (fun c=>(K c).bind G):=by
 unfold binStr;repeat' (first | rfl | split)
theorem zMl (tb:Bool) (op:BinOp) (x y:C) (K:C->Option R) (G:R->Option S):(binC tb op x y K).bind G=binC tb op x y (fun c=>(K c).bind G):=by
 unfold binC;repeat' (first | rfl | split | rw [zJZ] | rw [zJ9])
theorem zMv (op:UnOp) (x:C) (K:C->Option R) (G:R->Option S):(unC op x K).bind G=unC op x (fun c=>(K c).bind G):=by
 unfold unC;repeat' (first | rfl | split)
theorem zKf (n k:Nat) (i:Int) (K:Nat->Option R) (G:R->Option S):(splitI n k i K).bind G=splitI n k i (fun c=>(K c).bind G):=by
 induction n generalizing k with
 | zero=>rfl
 | succ n ih=>unfold splitI;split;rfl;exact ih _
theorem zHu (new id v:Nat) (e:Ty) (xs:List e.den) (i off:Nat) (s:Sto) (w:List Nat) (K:Eff->Option R) (G:R->Option S):(borrowK new id v e xs i off s w K).bind G=borrowK new id v e xs i off s w (fun c=>(K c).bind G):=by
 unfold borrowK;repeat' (first | rfl | split)
theorem zH5 (P:Program) (t:TypeId) (new:Nat) (c:C) (id2 v2:Nat) (e:Ty) (ys:List e.den) (s:Sto) (K:Eff->Option R) (G:R->Option S):(appendD P t new c id2 v2 e ys s K).bind G=appendD P t new c id2 v2 e ys s (fun c=>(K c).bind G):=by
 unfold appendD;dsimp only;repeat' (first | rfl | split)
theorem zHr (P:Program) (t:TypeId) (new:Nat) (c x:C) (s:Sto) (K:Eff->Option R) (G:R->Option S):(appendK P t new c x s K).bind G=appendK P t new c x s (fun c=>(K c).bind G):=by
 unfold appendK;dsimp only;repeat' (first | rfl | split | (rw [zL5];congr 1;funext e x m))
theorem zI4 (n:Int) (lo hi:Option V) (K:Nat->Nat->Option R) (G:R->Option S):(boundsK n lo hi K).bind G=boundsK n lo hi (fun l h=>(K l h).bind G):=by
 unfold boundsK;dsimp only;repeat' (first | rfl | split)
theorem zJC (t:Option TypeDesc) (sz:Nat) (c:C) (lo hi:Option V) (s:Sto) (K:C->List Nat->Option R) (G:R->Option S):(sliceK t sz c lo hi s K).bind G=sliceK t sz c lo hi s (fun c m=>(K c m).bind G):=by
 unfold sliceK;repeat' (first | rfl | split | rw [zI4])
theorem zGo {τs ρs:Ty} {io:List Bool} (F:τs.den->Option (ρs.den×(ioTy io τs).den)) (args:List V) (s:Sto) (b:Nat) (K:Eff->Option R) (G:R->Option S):(callT τs ρs io F args s b K).bind G=callT τs ρs io F args s b (fun c=>(K c).bind G):=by
 unfold callT;split
 ·rfl
 ·rw [we];congr 1;funext yz;split
  ·rfl
  ·dsimp only;split<;>rfl
theorem zKY (O:Oracle E) (g:Nat) (args:List V) (s:Sto) (b:Nat) (K:Eff->Option R) (G:R->Option S):(callK E O g args s b K).bind G=callK E O g args s b (fun c=>(K c).bind G):=zGo _ _ _ _ _ _
theorem zMk (O:Oracle E) (g off:Nat) (args:List V) (s:Sto) (b:Nat) (K:Eff->Option R) (G:R->Option S):(hidK E O g off args s b K).bind G=hidK E O g off args s b (fun c=>(K c).bind G):=by
 unfold hidK
 repeat' (first | rfl | rw [zGo] | split | (congr 1;funext _))
theorem zMf (P:Program) (t:TypeId) (op:BinOp) (cs ds:List C) (K:Bool->Option R) (G:R->Option S):(binA P t op cs ds K).bind G=binA P t op cs ds (fun c=>(K c).bind G):=by
 unfold binA;rw [we];congr 1;funext fs;rw [we];congr 1;funext r;split<;>rfl
theorem zL7 (P:Program) (t:TypeId) (op:BinOp) (u v:V) (K:C->Option R) (G:R->Option S):(binV P t op u v K).bind G=binV P t op u v (fun c=>(K c).bind G):=by
 unfold binV;split
 ·rw [zMf]
 ·split
  ·split
   ·rw [zMl]
   ·rfl
  ·rfl
set_option maxHeartbeats 1000000 in
theorem zLS (O:Oracle E) (o:Oper) (st:St) (K:Eff->Option R) (G:R->Option S):(exOp E O o st K).bind G=exOp E O o st (fun c=>(K c).bind G):=by
 cases ho:o.op<;>simp only [exOp,ho]<;>repeat' (first | rfl | rw [we] | rw [zII] | rw [zL7] | rw [zMv] | rw [zCp] | rw [zLN] | rw [zJC] | rw [zKf] | rw [zHu] | rw [zH5] | rw [zHr] | rw [zKY] | rw [zMk] | split | (congr 1;funext _) | (congr 1;funext _ _) | (congr 1;funext _ _ _))
theorem zGO (O O':Oracle E) (o:Oper) (st:St) (h: ∀ca g,o.op= .call ca->ca.callee= .value g->False) (K:Eff->Option R):exOp E O o st K=exOp E O' o st K:=by
 cases ho:o.op
 case call ca=>
  simp only [exOp,ho];split
  all_goals first | rfl | exact (h ca _ ho (by assumption)).elim
 all_goals simp only [exOp,ho]
 all_goals repeat' (first | rfl | contradiction | split)
theorem Ct.call (g:Nat) (args:List V) (s:Sto) (b:Nat):Ct E (fun O=>callK E O g args s b some):=by
 unfold callK callT
 cases prFs ((E.rs g).flat&&(ioTy (E.io g) (E.ps g)).flat) (E.ps g) args s [] with
 | none=>exact Ct.const _
 | some p=>exact Ct.bind (Ct.C _ _) (fun _=>Ct.const _)
theorem zLK {O O':Oracle E} (h:O.H=O'.H) (g off:Nat) (args:List V) (s:Sto) (b:Nat) (K:Eff->Option R):hidK E O g off args s b K=hidK E O' g off args s b K:=by
 unfold hidK;rw [h]
theorem zHQ {O:Oracle E} (h: ∀f x,O.H f x=none) (g off:Nat) (args:List V) (s:Sto) (b:Nat) (K:Eff->Option R):hidK E O g off args s b K=none:=by
 have e: ∀x,hidC (fun u=>O.H g (infl (E.ps g) x u)) (fun (y:(E.rs g).den×(ioTy (E.io g) (unh (E.ps g))).den) u=>(y.1,inflB (E.io g) (E.ps g) y.2 u))=none:=fun x=>by
  unfold hidC;rw [dif_neg]
  rintro ⟨y,hy⟩
  have:=hy (.pointer none) rfl;simp only [h] at this;cases this
 unfold hidK;split
 ·split
  ·split
   ·split
    ·simp only [callT,e,Option.bind_none];split<;>rfl
    ·rfl
   ·rfl
  ·rfl
 ·rfl
theorem Ct.hid (g off:Nat) (args:List V) (s:Sto) (b:Nat):Ct E (fun O=>hidK E O g off args s b some):=by
 intro lim sq ap r h;rcases ap.H with h0 | h0
 ·have h':hidK E lim g off args s b some=some r:=h;rw [zHQ h0] at h';cases h'
 ·exact ⟨0,fun n _=>(zLK (h0 n) g off args s b some).trans h⟩
theorem Ct.op0 (o:Oper) (st:St):Ct E (fun O=>exOp E O o st some):=by
 by_cases hv: ∃ca g,o.op= .call ca∧ca.callee= .value g
 ·obtain ⟨ca,g,ho,hc⟩:=hv;simp only [exOp,ho,hc]
  cases (st.eval g).one? with
  | none=>exact Ct.const _
  | some c=>
   cases c with
   | imm τ x=>
    cases τ with
    | fn f caps=>
     dsimp only
     cases E.clone f with
     | some t=>exact Ct.const _
     | none=>
      cases E.grow f with
      | some t=>exact Ct.const _
      | none=>
       refine Ct.ite ?_ (Ct.const _)
       cases E.hid (o.dst.getD 0) f with
       | none=>exact Ct.call _ _ _ _
       | some off=>exact Ct.hid _ _ _ _ _
    | _=>exact Ct.const _
   | _=>exact Ct.const _
 ·have e:(fun O=>exOp E O o st some)=fun _=>exOp E (Lm E) o st some:=funext fun O=>zGO O _ o st (fun ca g h1 h2=>hv ⟨ca,g,h1,h2⟩) some
  rw [e];exact Ct.const _
theorem Ct.op (o:Oper) (st:St) {K:Eff->Oracle E->Option R} (h: ∀e,Ct E (K e)):Ct E (fun O=>exOp E O o st (fun e=>K e O)):=by
 have e:(fun O=>exOp E O o st (fun e=>K e O))=fun O=>(exOp E O o st some).bind (fun e=>K e O):=funext fun O=>by rw [zLS];rfl
 rw [e];exact Ct.bind (Ct.op0 o st) h
theorem Ct.ops (all:Array Oper) (io:List Nat) (nt:Nat) (l:List Oper): ∀(st:St) (acc:List Info) {K:List Info->St->Oracle E->Option R},(∀is st,Ct E (K is st))->Ct E (fun O=>evOps E O all io nt l st acc (fun is st=>K is st O)):=by
 induction l with
 | nil=>exact fun st acc K h=>h _ _
 | cons o r ih=>
  intro st acc K h;have go (st:St):Ct E (fun O=>if dstB nt io o.dst=true then exOp E O o st (fun e=>evOps E O all io nt r (st.app o.dst e) (infoOf all o e::acc) (fun is st=>K is st O)) else none):=Ct.ite (Ct.op o st (fun e=>ih _ _ h)) (Ct.const _);have skip (st:St):Ct E (fun O=>if dstB nt io o.dst=true then evOps E O all io nt r (st.app o.dst {v:= .tup [],s:=st.o}) (infoOf all o {v:= .tup [],s:=st.o}::acc) (fun is st=>K is st O) else none):=Ct.ite (ih _ _ h) (Ct.const _);simp only [evOps]
  cases o.guard with
  | none=>exact go st
  | some g=>
   obtain ⟨j,want⟩:=g;dsimp only
   cases guardTmp all j with
   | none=>exact Ct.const _
   | some t=>
    dsimp only;split
    ·rename_i b _;cases (b:Bool)<;>cases want<;>first | exact go _ | exact skip _
    ·exact skip st
    ·exact Ct.const _
theorem Ct.evPick (all:Array Oper) (io:List Nat) (nt:Nat) (draw:Bool) (ops:List Oper) (st:St) {K:St->Oracle E->Option R} (h: ∀st,Ct E (K st)):Ct E (fun O=>evPick E O all io nt draw ops st (fun st=>K st O)):=by
 cases ops with
 | nil=>exact Ct.const _
 | cons o r=>
  simp only [Ev.evPick];generalize o.op=op;generalize o.guard=gu;split
  ·split
   ·split
    ·split
     ·exact Ct.ite (Ct.pick (Ct.ops _ _ _ _ _ _ (fun _ _=>h _)) (fun _=>Ct.ops _ _ _ _ _ _ (fun _ _=>h _))) (Ct.const _)
     ·exact Ct.const _
    ·exact Ct.const _
   ·exact Ct.const _
  ·exact Ct.const _
theorem Ct.ev (F:Fn E) (c:Code): ∀(p:Nat) (R:Type) (K:Ex->St->Oracle E->Option R) (KR:E.Ret F.f->Oracle E->Option R) (st:St),(∀e st,Ct E (K e st))->(∀r,Ct E (KR r))->Ct E (fun O=>ev E O F c p R (fun e st=>K e st O) (fun r=>KR r O) st):=by
 induction c with
 | skip=>exact fun p R K KR st hK hR=>hK _ _
 | region g ops draw=>
  intro p R K KR st hK hR;simp only [Ev.ev];split
  ·exact Ct.evPick _ _ _ _ _ _ (fun _=>hK _ _)
  ·exact Ct.ops _ _ _ _ _ _ (fun _ _=>Ct.ite (hK _ _) (Ct.const _))
 | seq a b iha ihb=>
  intro p R K KR st hK hR;simp only [Ev.ev];split
  ·rename_i ts τ exits al _;refine Ct.ite ?_ ?_
   ·refine Ct.bind (iha _ (τ.den⊕R) (fun e st O=>match e with
     | .normal=>(prStA ts al τ st).map Sum.inl
     | .exit i=>(K (.exit i) st O).map Sum.inr) (fun r O=>(KR r O).map Sum.inr) st (fun e st=>?_) (fun r=>Ct.map (hR r))) (fun x=>?_)
    ·cases e
     ·exact Ct.const _
     ·exact Ct.map (hK _ _)
    ·cases x
     ·exact ihb _ _ _ _ _ hK hR
     ·exact Ct.const _
   ·exact Ct.bind (iha _ _ (fun e st O=>match e with
     | .normal=>prStA ts al τ st
     | .exit _=>none) (fun _ _=>none) st (fun e st=>by cases e<;>exact Ct.const _) (fun r=>Ct.const _)) (fun x=>ihb _ _ _ _ _ hK hR)
  ·rename_i t _
   refine iha _ _ (fun e st O=>match e with
    | .normal=>forceK t st fun st=>Ev.ev E O F b (2*p+1) R (fun e st=>K e st O) (fun r=>KR r O) st
    | .exit i=>K (.exit i) st O) KR st (fun e st=>?_) hR
   cases e
   ·dsimp only;unfold forceK
    repeat' (first | exact ihb _ _ _ _ _ hK hR | exact Ct.const _ | split)
   ·exact hK _ _
  ·refine iha _ _ (fun e st O=>match e with
    | .normal=>Ev.ev E O F b (2*p+1) R (fun e st=>K e st O) (fun r=>KR r O) st
    | .exit i=>K (.exit i) st O) KR st (fun e st=>?_) hR
   cases e
   ·exact ihb _ _ _ _ _ hK hR
   ·exact hK _ _
 | cond c a b iha ihb=>
  intro p R K KR st hK hR;simp only [Ev.ev];split
  ·exact Ct.ite (iha _ _ _ _ _ hK hR) (ihb _ _ _ _ _ hK hR)
  ·exact Ct.const _
 | block id a ih=>
  intro p R K KR st hK hR;simp only [Ev.ev]
  refine ih _ _ (fun e st O=>match e with
   | .normal=>K .normal st O
   | .exit i=>if i=id then K .normal st O else K (.exit i) st O) KR st (fun e st=>?_) hR
  cases e
  ·exact hK _ _
  ·exact Ct.ite (hK _ _) (hK _ _)
 | loop a ih=>
  intro p R K KR st hK hR;simp only [Ev.ev];split
  ·split
   ·exact Ct.const _
   ·refine Ct.bind (Ct.L _ _ _ _) (fun x=>?_);cases x
    ·exact hK _ _
    ·exact hR _
  ·exact Ct.const _
 | exit id=>exact fun p R K KR st hK hR=>hK _ _
 | ret=>exact fun p R K KR st hK hR=>Ct.bindc (fun _=>hR _)
 | _=>exact fun p R K KR st hK hR=>Ct.const _
theorem Φ_C {f:Nat} {x:(E.ps f).den}:Ct E (fun O=>(Φ E O).C f x):=by
 simp only [Φ,evFn];split
 ·exact Ct.const _
 ·split
  ·split
   ·rename_i F c _ h
    refine Ct.ev F c 1 (E.Ret f) (fun e st _=>match e with
     | .normal=>(prRet E F.f F.res st).bind fun r=>some (h.1▸r)
     | .exit _=>none) (fun r _=>some (h.1▸r)) _ (fun e st=>Ct.const _) (fun r=>Ct.const _)
   ·exact Ct.const _
  ·exact Ct.const _
theorem Φ_L {f:Nat} {h:LoopH} {c:Code} {x:h.hτ.den}:Ct E (fun O=>(Φ E O).L f h c x):=by
 simp only [Φ,evLoop];split
 ·split
  ·rename_i F _ _ e
   refine Ct.ev F c h.key (h.oτ.den⊕E.Ret f) (fun i st O=>match i with
    | .normal=>(prStA h.ht h.hal h.hτ st).bind fun x=>O.L f h c x
    | .exit i=>if i=h.ex then (prStA h.ot h.oal h.oτ st).bind fun y=>some (.inl y) else none) (fun r _=>some (.inr (e▸r))) _ (fun i st=>?_) (fun r=>Ct.const _)
   cases i
   ·exact Ct.bindc (fun _=>Ct.L _ _ _ _)
   ·exact Ct.const _
  ·exact Ct.const _
 ·exact Ct.const _
theorem fixCH {hh:HOr E} {f:Nat} {x:(E.ps f).den} {a:Option (E.Ret f)} (h:(Φ E (LmH E hh)).C f x=a) {r:E.Ret f} (hr:a=some r):(LmH E hh).C f x=some r:=
 Lm_C.2 (Gets.step (Φ_C _ _ (Ap.lm hh) r (h.trans hr)))
theorem fixLH {hh:HOr E} {f:Nat} {h:LoopH} {c:Code} {x:h.hτ.den} {a:Option (h.oτ.den⊕E.Ret f)} (e:(Φ E (LmH E hh)).L f h c x=a) {r:h.oτ.den⊕E.Ret f} (hr:a=some r):(LmH E hh).L f h c x=some r:=
 Lm_L.2 (GetsL.step (Φ_L _ _ (Ap.lm hh) r (e.trans hr)))
theorem fixC {f:Nat} {x:(E.ps f).den} {a:Option (E.Ret f)} (h:(Φ E (Lm E)).C f x=a) {r:E.Ret f} (hr:a=some r):(Lm E).C f x=some r:=fixCH h hr
theorem fixL {f:Nat} {h:LoopH} {c:Code} {x:h.hτ.den} {a:Option (h.oτ.den⊕E.Ret f)} (e:(Φ E (Lm E)).L f h c x=a) {r:h.oτ.den⊕E.Ret f} (hr:a=some r):(Lm E).L f h c x=some r:=fixLH e hr
theorem fxCH {hh:HOr E} {f:Nat} {x:(E.ps f).den} {q:Oracle E->Option (E.Ret f)} (h: ∀O,(Φ E O).C f x=q O) {r:E.Ret f} (hr:q (LmH E hh)=some r):(LmH E hh).C f x=some r:=fixCH (h _) hr
theorem fxLH {hh:HOr E} {f:Nat} {h:LoopH} {c:Code} {x:h.hτ.den} {q:Oracle E->Option (h.oτ.den⊕E.Ret f)} (e: ∀O,(Φ E O).L f h c x=q O) {r:h.oτ.den⊕E.Ret f} (hr:q (LmH E hh)=some r):(LmH E hh).L f h c x=some r:=fixLH (e _) hr
theorem fxC {f:Nat} {x:(E.ps f).den} {q:Oracle E->Option (E.Ret f)} (h: ∀O,(Φ E O).C f x=q O) {r:E.Ret f} (hr:q (Lm E)=some r):(Lm E).C f x=some r:=fixC (h _) hr
theorem fxL {f:Nat} {h:LoopH} {c:Code} {x:h.hτ.den} {q:Oracle E->Option (h.oτ.den⊕E.Ret f)} (e: ∀O,(Φ E O).L f h c x=q O) {r:h.oτ.den⊕E.Ret f} (hr:q (Lm E)=some r):(Lm E).L f h c x=some r:=fixL (e _) hr
theorem zIe (hh:HOr E): ∀n,(∀(f:Nat) (x:(E.ps f).den) (y:E.Ret f),(On E n).C f x=some y->(LmH E hh).C f x=some y)∧ ∀(f:Nat) (h:LoopH) (c:Code) (x:h.hτ.den) (y:h.oτ.den⊕E.Ret f),(On E n).L f h c x=some y->(LmH E hh).L f h c x=some y
 | 0=>⟨fun _ _ _ h=>(by cases h),fun _ _ _ _ _ h=>(by cases h)⟩
 | n+1=>by
  obtain ⟨h1,h2⟩:=zIe hh n;have ap:Ap (On E n) (fun _=>LmH E hh):=⟨fun f x y h=>⟨0,fun _ _=>h1 f x y h⟩,fun f h c x y k=>⟨0,fun _ _=>h2 f h c x y k⟩,.inl fun f x=>by rw [On_H];rfl⟩;refine ⟨fun f x y h=>?_,fun f h c x y k=>?_⟩
  ·obtain ⟨N,hN⟩:=Φ_C _ _ ap y h;exact fixCH (hN N (ql _)) rfl
  ·obtain ⟨N,hN⟩:=Φ_L _ _ ap y k;exact fixLH (hN N (ql _)) rfl
theorem upC {hh:HOr E} {f:Nat} {x:(E.ps f).den} {y:E.Ret f} (h:(Lm E).C f x=some y):(LmH E hh).C f x=some y:=by
 obtain ⟨N,hN⟩:=Lm_C.1 h;exact (zIe hh N).1 f x y (hN N (ql _))
theorem zMn (hX:ExtSound E) (hm:E.P.follows .mixedOrders=true):HidSound E (Lm E).C:=fun f x yz h=>by
 obtain ⟨N,hN⟩:=Lm_C.1 h;exact (zKH hX hm N).1.2 f x yz (hN N (ql _))
theorem zCr {α β:Type} {f:Value->Option α} {mk:β->Value->α} {y:β} (hi: ∀y y':β,mk y (.pointer none)=mk y' (.pointer none)->y=y') (h: ∀u:Value,u.oneCell'=true->f u=some (mk y u)):hidC f mk=some y:=by
 have p: ∃y,∀u:Value,u.oneCell'=true->f u=some (mk y u):=⟨y,h⟩;unfold hidC;rw [dif_pos p];refine congrArg some (hi _ _ ?_);exact qh ((p.choose_spec (.pointer none) rfl).symm.trans (h (.pointer none) rfl))
theorem zvq: ∀(τ:Ty) (x x':(unh τ).den) (u:Value),infl τ x u=infl τ x' u->x=x'
 | .opq,_,_,_,_=>rfl
 | .agg fs,x,x',u,h=>zvq fs x x' u h
 | .cons a r,x,x',u,h=>Prod.ext (zvq a x.1 x'.1 u (congrArg Prod.fst h)) (zvq r x.2 x'.2 u (congrArg Prod.snd h))
 | .box e,x,x',u,h=>zvq e x x' u h
 | .bool,_,_,_,h | .int _,_,_,_,h | .str,_,_,_,h | .sl _,_,_,_,h | .own _,_,_,_,h | .nil,_,_,_,h | .ptr _,_,_,_,h | .fn _ _,_,_,_,h | .tree,_,_,_,h | .unk,_,_,_,h | .map _,_,_,_,h | .mv _,_,_,_,h | .imap _,_,_,_,h | .iter _,_,_,_,h | .optr _,_,_,_,h | .sb _ _,_,_,_,h=>h
theorem zy9: ∀(io:List Bool) (τs:Ty) (z z':(ioTy io (unh τs)).den) (u:Value),inflB io τs z u=inflB io τs z' u->z=z':=by
 intro io
 induction io with
 | nil=>intro τs z z' u h;cases τs<;>rfl
 | cons b io ih=>
  intro τs z z' u h;cases b<;>cases τs<;>first | rfl | exact ih _ z z' u h | exact Prod.ext (zvq _ z.1 z'.1 u (congrArg Prod.fst h)) (ih _ z.2 z'.2 u (congrArg Prod.snd h))
end
open Go Go.RowKit
section
variable {H : Type} {enc : TypeId × Value -> H} {P : Program} {w : World} {spare : Nat -> Bool} {held : Bool}
theorem zD5 {n:Nat} {t:TypeId} {τ:Ty} (hd:dtP P n t=some τ) {base:Nat} {v:Value} {d:DataW H} {ps:List MemPlace} (hv:Value.okWide P w .any base t v) (h:DataW.Trod enc P w 0 spare held t v d ps):
  ∃x:τ.den,RepA (memOf w) (fun k=>k<w.heap.size) τ x v []∧wfT τ x:=by
 obtain ⟨fuel,h⟩:=h;obtain ⟨x,h1,h2⟩:=(zJG n).1 t τ hd fuel _ _ h;refine ⟨x,?_,h2⟩
 cases n with
 | zero=>simp [dtP] at hd
 | succ n=>
  have one:(∀fs,P.underlying t≠some (.struct fs))->(∀n e,P.underlying t≠some (.array n e))->(∀cs,v≠ .agg cs)->v.cells.toList= [v]:=by
   intro _ _ hc;cases v<;>first | rfl | exact absurd rfl (hc _)
  unfold dtP at hd;split at hd
  ·rename_i hu;obtain rfl:=qh hd;obtain ⟨b,hb,_⟩:=DataW.trod_bool hu h
   have:v= .bool b:=by
    cases v with
    | agg cs=>simp [Value.okWide,Cell.okWide,Cell.ok,hu] at hv
    | _=>simp [Value.cells] at hb<;>simp_all
   subst this;exact h1
  ·rename_i k hu;obtain rfl:=qh hd
   have: ∀cs,v≠ .agg cs:=by
    rintro cs rfl
    simp [Value.okWide,Cell.okWide,Cell.ok,hu] at hv
   rw [one (by rw [hu];simp) (by rw [hu];simp) this] at h1;exact h1
  ·rename_i hu;obtain rfl:=qh hd
   have: ∀cs,v≠ .agg cs:=by
    rintro cs rfl
    simp [Value.okWide,Cell.okWide,Cell.ok,hu] at hv
   rw [one (by rw [hu];simp) (by rw [hu];simp) this] at h1;exact h1
  ·rename_i e hu;split at hd
   ·split at hd
    ·obtain rfl:=qh hd
     have: ∀cs,v≠ .agg cs:=by
      rintro cs rfl
      simp [Value.okWide,Cell.okWide,Cell.ok,hu] at hv
     rw [one (by rw [hu];simp) (by rw [hu];simp) this] at h1;exact h1
    ·cases hd
   ·cases hd
  ·rename_i fs hu;split at hd
   ·split at hd
    ·obtain rfl:=qh hd;simp only [Value.okWide,hu] at hv;obtain ⟨cs,rfl,_⟩:=hv;exact ⟨cs.toList,rfl,h1⟩
    ·cases hd
   ·cases hd
  ·cases hd
end
theorem zJ2 {m:Mem} {N:Nat->Prop} {rs:List Value} {G:List Nat} (h:RepAs m N (.cons .bool .nil) (true,()) rs G):retOf rs= .bool true:=by
 match rs,h with
 | [],h=>exact h.elim
 | u::us,⟨F1,F2,_,h1,h2⟩=>
  obtain ⟨rfl,_⟩:=h2;have h1':RepT m N .bool true [u] F1:=h1;obtain ⟨h3,_⟩:=h1';obtain rfl:=(List.cons.inj h3).1;rfl
theorem zIh {E:Env} (hX:ExtSound E) (hm:E.P.follows .mixedOrders=true) {hh:HOr E} (hH:HidSound E hh) {f:Nat} {x:(E.ps f).den} {yz:E.Ret f} (h:(LmH E hh).C f x=some yz) {w:World} {us:List Value} (hr:RepAs (memOf w) (fun k=>k<w.heap.size) (E.ps f) x us []) (hT:E.tabs w (fun k=>k<w.heap.size)):
  Calls E.P (rl f) us.toArray w (fun e w'=>Below w.heap.size w w'∧ ∃N' rs G1,e= .returned (retOf rs)∧RepAs (memOf w') N' (E.rs f) yz.1 rs G1):=by
 obtain ⟨N,hN⟩:=Lm_C.1 h;exact zI1 hX hm hH (hN N (ql _)) hr hT
open Go Go.RowKit Go.Lib
variable {P : Program}
theorem Els.alloc {w:World} {N:Nat->Prop} {e:Ty} {xs:List e.den} {v:Value} (h:Els (memOf w) N e xs v) (hN: ∀k,N k->k<w.heap.size) (o:Go.Obj):Els (memOf (w.alloc o)) N e xs v:=by
 obtain ⟨a,cap,es,h1,h2,h3,h4,h5⟩:=h;refine ⟨a,cap,es,h1,h2,h3,fun i hi hi'=>RepT.mono (fun b hb=>⟨hb,zgf w o (hN b hb)⟩) (by simp) (h4 i hi hi'),fun hn=>?_⟩;obtain ⟨b,off,h6,h7⟩:=h5 hn;refine ⟨b,off,h6,h7.mono (zgf w o ?_)⟩;obtain ⟨c,T,fr,h8,_⟩:=h7;exact (Array.getElem?_eq_some_iff.1 (show w.heap[b]?=some _ from h8)).1
theorem zxf {ops:Array Oper} {rest:List Oper} {o:Oper} {a:Act} {w:World} {Q:Exit->Act->World->Prop} (hgd:o.guard=none) (s x:Operand) (t:TypeId)
  (ho:o.op= .call {callee:= .builtin .append,args:= #[s,x],argTypes:= #[t,t]}) {vs vx v':Value} {w':World} (hs:a.eval s=vs) (hx:a.eval x=vx)
  (hr:(Builtin.append_ #[t,t] o.type #[vs,vx]).run P w= .ok v' w') (h:wpList P ops Q rest (a.put o.dst v') w'):wpList P ops Q (o::rest) a w:=by
 refine wpList_plain hgd fun K hK=>?_
 unfold Oper.wp execOp;simp only [ho,resolve,invoke,builtin,Sem.run_bind,Sem.run_pure,Result.andThen_ok,List.map_toArray,qK,List.map_nil,hs,hx,hr];exact hK _ _ h
theorem zzr {t te:TypeId} {e:Ty} (himm:e.isImm=true) (ht:P.underlying t=some (.slice te)) (hz:hasZero P te=true) (hb0:bytesP P te≠0) (hes:e.sz=szP P te)
  {w:World} {N:Nat->Prop} (hN: ∀k,N k->k<w.heap.size) {xs:List e.den} {v:Value} (hE:Els (memOf w) N e xs v) (hroom:xs.length*bytesP P te<=140737488355328):
  ∃v' w',(Builtin.append_ #[t,t] t #[.slice (some ⟨w.heap.size,0,none⟩) 0 0,v]).run P (w.alloc (.cells #[] te (0,0)))= .ok v' w'∧
   ∃G',Moves w w' []∧RepT (memOf w') N (.own e) xs [v'] G'∧(∀k∈G',w.heap.size<=k∧k<w'.heap.size)∧G'.Nodup:=by
 obtain ⟨it,z,hi1,hi2,hi3,hi4,hi5⟩:=zjC hz;have S:SrcOK P (w.alloc (.cells #[] te (0,0))) N t e xs v:=(hE.alloc hN _).src ht;obtain ⟨v',w',G',W,hrun,hmv,hW,hr,hG',hnd⟩:=zuT (ty:=t) himm ht hi1 hi2 hi4 (by rw [hi5];exact hb0) (by rw [hes,hi3]) (w:=w.alloc (.cells #[] te (0,0))) (N:=N) (xs:= []) (v:= .slice (some ⟨w.heap.size,0,none⟩) 0 0) (G:= []) (.inl ⟨some ⟨w.heap.size,0,none⟩,rfl,rfl,rfl⟩) (fun k hk=>⟨by have:=hN k hk;simp;omega,by simp⟩) S (by rw [hi5];simpa using hroom);refine ⟨v',w',hrun,G',?_,by simpa using hr,fun k hk=>?_,hnd⟩
 ·have:W= []:=List.eq_nil_iff_forall_not_mem.2 fun k hk=>by simpa using hW k hk
  subst this;exact (Moves.alloc w _).trans hmv
 ·rcases hG' k hk with h | h
  ·simp at h
  ·simp at h;omega
theorem zEK {te:TypeId} {e:Ty} (hes:e.sz=szP P te) {z:Value} (hz:z.cells.size=szP P te) {w:World} {N:Nat->Prop} {n:Nat} (hn:n<=maxLen):
  RepT (memOf (w.drew.alloc (.cells (Builtin.zeroCells z.cells n++Builtin.zeroCells z.cells (grownCap w n 0 te-n)) te))) N (.own e) [] [.slice (some ⟨w.heap.size,0,none⟩) 0 (grownCap w n 0 te)] [w.heap.size]:=by
 have hge:=grownCap_ge w n 0 te;refine .inr ⟨w.heap.size,grownCap w n 0 te,_,te,[],[],rfl,zep w.drew _,?_,by simp,grownCap_le_maxLen w n 0 te hn,rfl,rfl,fun i h=>absurd h (by simp),by simp,rfl⟩;rw [Array.size_append,size_zeroCells,size_zeroCells,hz,hes,<-Nat.add_mul,Nat.add_sub_cancel' hge]
open Go Go.Lib Go.Sort
abbrev SlV:=Option Addr×Nat×Nat
def encS (x:SlV):Value:= .slice x.1 x.2.1 x.2.2
def decS:List Value->SlV
 | [.slice a n c]=>(a,n,c)
 | _=>(none,0,0)
open Go.Proofs in
theorem oneSlV:OneCell encS:=fun _=>rfl
def DelOK (P:Program) (f:Nat):Prop:=
 ∀(blk cap i:Nat) (d:Array SlV) (w:World),Holds encS w blk 0 d->d.size<=cap->cap<=9223372036854775807->i+1<=d.size->
  Calls P f #[.slice (some ⟨blk,0,none⟩) d.size cap,.int .i64 i,.int .i64 ((i+1:Nat):Int)] w fun e w'=>e= .returned (.slice (some ⟨blk,0,none⟩) (d.size-(i+1-i)) cap)∧
   ∃q,w'=putRow encS (Go.Sort.ahead w q) blk 0 (d.toList.take i++d.toList.drop (i+1)++List.replicate (i+1-i) (none,0,0)).toArray
theorem zEZ {es:List (List Value)} (h: ∀i (hi:i<es.length),∃v,es[i]= [v]):es.flatten.length=es.length∧ ∀i (hi:i<es.length),es.flatten[i]?=(es[i]).head?:=by
 induction es with
 | nil=>simp
 | cons x r ih=>
  obtain ⟨v,hv⟩:=h 0 (by simp);simp only [List.getElem_cons_zero] at hv;subst hv;obtain ⟨h1,h2⟩:=ih (fun i hi=>h (i+1) (Nat.succ_lt_succ hi));refine ⟨by simp [h1],fun i hi=>?_⟩
  cases i with
  | zero=>rfl
  | succ i=>simpa using h2 i (by simpa using hi)
theorem zHz {P:Program} {f:Nat} (hd:DelOK P f) {w:World} {N:Nat->Prop} {xs:List (List Int)} {i j:Int} {us:List Value} {G:List Nat} (h0:0<=i) (h1:j=i+1) (h2:j<=(List.length xs:Int))
  (hr:RepAs (memOf w) N (.cons (.own (.sl (.int .i64))) (.cons (.int .i64) (.cons (.int .i64) .nil))) (xs,i,j,()) us G) (hG: ∀k∈G,k<w.heap.size∧ ¬N k) (hN: ∀k,N k->k<w.heap.size):
  Calls P f us.toArray w (Post fun v w'=>Moves w w' G∧(∀k,N k->k<w'.heap.size)∧RepAs (memOf w') N (.cons (.own (.sl (.int .i64))) .nil) (xs.take i.toNat++xs.drop j.toNat,()) [v] G∧w'.heap.size=w.heap.size∧ ∃u1 u2 u3,us= [u1,u2,u3]):=by
 obtain ⟨n,rfl⟩: ∃n:Nat,i=(n:Int):=⟨i.toNat,by omega⟩;subst h1
 match us,hr with
 | [],hr=>exact hr.elim
 | [u1],⟨_,_,_,_,hr⟩=>exact hr.elim
 | [u1,u2],⟨_,_,_,_,_,_,_,_,hr⟩=>exact hr.elim
 | u1::u2::u3::us',⟨F1,F2,e,g1,F3,F4,e',g2,F5,F6,e'',g3,g4⟩=>
  obtain ⟨rfl,rfl⟩:=g4;have g2':RepT (memOf w) N (.int .i64) (n:Int) [u2] F3:=g2;have g3':RepT (memOf w) N (.int .i64) ((n:Int)+1) [u3] F5:=g3;obtain ⟨q2,rfl⟩:=g2';obtain ⟨q3,rfl⟩:=g3';obtain rfl:=(List.cons.inj q2).1;obtain rfl:=(List.cons.inj q3).1;obtain rfl:F4= []:=by simpa using e''
  obtain rfl:F2= []:=by simpa using e'
  obtain rfl:G=F1:=by simpa using e
  have g1':RepT (memOf w) N (.own (.sl (.int .i64))) xs [u1] G:=g1;rcases g1' with ⟨a,_,hx,_⟩ | ⟨g,cap,c,T,es,Fs,hu,hm,hc,hcap,hmax,hes,hFs,hel,htk,hF⟩
  ·subst hx;simp at h2;omega
  ·have hx:n+1<=xs.length:=by omega
   obtain rfl:=(List.cons.inj hu).1
   have hone: ∀k (hk:k<es.length),∃a m cp,es[k]= [.slice a m cp]∧Fs[k]'(by omega)= []:=by
    intro k hk;obtain ⟨hF0,a,cp,es',he,_⟩:=hel k (by omega) hk (by omega);exact ⟨a,_,cp,he,hF0⟩
   have hFs0:Fs.flatten= []:=by
    rw [List.flatten_eq_nil_iff];intro x hx;obtain ⟨k,hk,rfl⟩:=List.getElem_of_mem hx;obtain ⟨_,_,_,_,h⟩:=hone k (by omega);exact h
   rw [hFs0] at hF;obtain ⟨fl1,fl2⟩:=zEZ (es:=es) (fun k hk=>by obtain ⟨a,m,cp,h,_⟩:=hone k hk;exact ⟨_,h⟩);have hsz:c.size=cap:=by rw [hc];simp [Ty.sz]
   have hdec: ∀k (hk:k<es.length),es[k]= [encS (decS es[k])]:=by
    intro k hk;obtain ⟨a,m,cp,h,_⟩:=hone k hk;rw [h];rfl
   have hcell: ∀k (hk:k<es.length),c[k]?=some (encS (decS es[k])):=by
    intro k hk;have e1:=fl2 k hk;rw [hdec k hk] at e1;rw [<-htk,List.getElem?_take] at e1;rw [fl1,qb hk] at e1;simpa using e1
   let d:Array SlV:=(es.map decS).toArray
   have hdsz:d.size=es.length:=by simp [d]
   have hdk: ∀k,k<d.size->d[k]! =decS (es.getD k []):=by
    intro k hk;rw [getElem!_pos d k hk];rw [hdsz] at hk;simp [d,List.getD,hk]
   have hm':w.heap[g]?=some (.cells c T (0,0)):=hm
   have hH:Holds encS w g 0 d:=by
    intro k hk;rw [hdk k hk];rw [hdsz] at hk;have hc':=hcell k hk;refine ⟨?_,?_⟩
    ·simp only [World.cell?,hm',qJ];rw [hc'];simp [List.getD,hk]
    ·simp [World.frozen?,hm']
   refine Calls.mono (show Calls P f #[.slice (some ⟨g,0,none⟩) (List.length xs) cap,.int .i64 n,.int .i64 ((n:Int)+1)] w _ from (by
    have:=hd g cap n d w hH (by rw [hdsz];omega) (by unfold maxLen at hmax;exact hmax) (by rw [hdsz];omega);rw [show ((n+1:Nat):Int)=(n:Int)+1 by omega] at this;rw [hdsz,hes] at this;exact this)) (fun e w' hp=>?_)
   obtain ⟨rfl,q,rfl⟩:=hp
   let D:List SlV:=(es.map decS).take n++(es.map decS).drop (n+1)
   have hDl:D.length=es.length-1:=by simp [D];omega
   generalize hdd:(d.toList.take n++d.toList.drop (n+1)++List.replicate (n+1-n) ((none,0,0):SlV)).toArray=dd;have hdd0:dd=(D++ [((none,0,0):SlV)]).toArray:=by rw [<-hdd];simp [d,D]
   have hddsz:dd.size=es.length:=by rw [hdd0];simp [hDl];omega
   have hheap: ∀k,(putRow encS (Go.Sort.ahead w q) g 0 dd).heap[k]?=if k=g then some (.cells (putCells encS 0 dd c) T (0,0)) else w.heap[k]?:=by
    intro k;simp only [putRow,mapBlock,Array.getElem?_modify];by_cases hk:g=k
    ·subst hk;rw [qb rfl,qb rfl,show (Go.Sort.ahead w q).heap=w.heap from rfl,hm'];rfl
    ·rw [qc hk,qc (Ne.symm hk)];rfl
   have hsize:(putRow encS (Go.Sort.ahead w q) g 0 dd).heap.size=w.heap.size:=by simp [putRow,mapBlock,Go.Sort.ahead]
   refine ⟨⟨rfl,rfl,rfl,Nat.le_of_eq hsize.symm,fun k hk hkG=>?_⟩,fun k hk=>by rw [hsize];exact hN k hk,?_,hsize,_,_,_,rfl⟩
   ·rw [hheap k,qc]
    rintro rfl
    exact hkG (by rw [hF];simp)
   ·have hg0: ∀b,N b->memOf (putRow encS (Go.Sort.ahead w q) g 0 dd) b=memOf w b:=by
     intro b hb;show (putRow encS (Go.Sort.ahead w q) g 0 dd).heap[b]?=w.heap[b]?;rw [hheap b,qc]
     rintro rfl
     exact (hG b (by rw [hF];simp)).2 hb
    have hxl:(xs.take n++xs.drop (n+1)).length=xs.length-1:=by simp;omega
    have hnn:((n:Int)).toNat=n∧((n:Int)+1).toNat=n+1:=⟨by omega,by omega⟩;refine ⟨G,[],by simp,?_,rfl,rfl⟩;rw [hnn.1,hnn.2];show RepT (memOf (putRow encS (Go.Sort.ahead w q) g 0 dd)) N (.own (.sl (.int .i64))) (xs.take n++xs.drop (n+1)) [_] G;refine .inr ⟨g,cap,putCells encS 0 dd c,T,es.take n++es.drop (n+1),List.replicate (xs.length-1) [],?_,?_,?_,?_,hmax,?_,?_,?_,?_,?_⟩
    ·rw [hxl];simp
    ·show (putRow encS (Go.Sort.ahead w q) g 0 dd).heap[g]?=_;rw [hheap g,qb rfl]
    ·simp [putCells,hc]
    ·rw [hxl];omega
    ·rw [hxl];simp;omega
    ·rw [hxl];simp
    ·intro k hk hk' hk'';rw [List.getElem_replicate];rw [hxl] at hk;by_cases hkn:k<n
     ·have a1:(xs.take n++xs.drop (n+1))[k]'(by rw [hxl];exact hk)=xs[k]'(by omega):=by rw [List.getElem_append_left (by simp;omega)];simp
      have a2:(es.take n++es.drop (n+1))[k]'hk'=es[k]'(by omega):=by rw [List.getElem_append_left (by simp;omega)];simp
      have:=hel k (by omega) (by omega) (by omega);rw [(hone k (by omega)).choose_spec.choose_spec.choose_spec.2] at this;rw [a1,a2];exact RepT.mono (fun b hb=>⟨hb,hg0 b hb⟩) (by simp) this
     ·have a1:(xs.take n++xs.drop (n+1))[k]'(by rw [hxl];exact hk)=xs[k+1]'(by omega):=by
       rw [List.getElem_append_right (by simp;omega)];simp only [List.length_take,List.getElem_drop];congr 1;omega
      have a2:(es.take n++es.drop (n+1))[k]'hk'=es[k+1]'(by omega):=by
       rw [List.getElem_append_right (by simp;omega)];simp only [List.length_take,List.getElem_drop];congr 1;omega
      have:=hel (k+1) (by omega) (by omega) (by omega);rw [(hone (k+1) (by omega)).choose_spec.choose_spec.choose_spec.2] at this;rw [a1,a2];exact RepT.mono (fun b hb=>⟨hb,hg0 b hb⟩) (by simp) this
    ·obtain ⟨f1,f2⟩:=zEZ (es:=es.take n++es.drop (n+1)) (fun k hk=>by
      have hmem:=qi hk
      have:(es.take n++es.drop (n+1))[k]∈es:=by
       rcases qr.1 hmem with h | h
       ·exact List.mem_of_mem_take h
       ·exact List.mem_of_mem_drop h
      obtain ⟨k',hk',e⟩:=List.getElem_of_mem this;obtain ⟨a,m,cp,h,_⟩:=hone k' hk';exact ⟨_,by rw [<-e,h]⟩)
     have hl:(es.take n++es.drop (n+1)).length=es.length-1:=by simp;omega
     apply List.ext_getElem?;intro k;rw [f1,hl,List.getElem?_take];by_cases hk:k<es.length-1
     ·rw [qb hk,f2 k (by omega)];have hk1:k<c.size:=by rw [hsz];omega
      have b1:(putCells encS 0 dd c).toList[k]?=some (encS dd[k]!):=by
       simp only [putCells,Array.getElem?_toList,Array.getElem?_mapIdx,Array.getElem?_eq_getElem hk1,qY];rw [qb ⟨Nat.zero_le _,by omega⟩,Nat.sub_zero]
      rw [b1]
      have b2:dd[k]! =D[k]'(by omega):=by
       rw [getElem!_pos dd k (by omega)];subst hdd0;simp only [List.getElem_toArray];rw [List.getElem_append_left (by omega)]
      rw [b2]
      have b3:D[k]'(by omega)=decS ((es.take n++es.drop (n+1))[k]'(by omega)):=by
       simp only [D,<-List.map_take,<-List.map_drop,<-List.map_append,List.getElem_map]
      have b4: ∃v,(es.take n++es.drop (n+1))[k]'(by omega)= [v]∧v=encS (decS ((es.take n++es.drop (n+1))[k]'(by omega))):=by
       have hmem:=qi (l:=es.take n++es.drop (n+1)) (n:=k) (by omega)
       have:(es.take n++es.drop (n+1))[k]'(by omega)∈es:=by
        rcases qr.1 hmem with h | h
        ·exact List.mem_of_mem_take h
        ·exact List.mem_of_mem_drop h
       obtain ⟨k',hk',e⟩:=List.getElem_of_mem this;refine ⟨_,by rw [<-e];exact hdec k' hk',by rw [<-e]⟩
      obtain ⟨v,b5,b6⟩:=b4;rw [b3,<-b6,b5];rfl
     ·rw [qc hk,List.getElem?_eq_none (by omega)]
    ·rw [hF];simp
abbrev tyI:Ty:= .int .i64
abbrev tyLs:Ty:= .agg (.cons .bool (.cons (.sl tyI) (.cons (.sl tyI) .nil)))
abbrev tyLo:Ty:= .agg (.cons .bool (.cons (.own tyI) (.cons (.own tyI) .nil)))
abbrev tyLq:Ty:= .agg (.cons .bool (.cons .opq (.cons .opq .nil)))
abbrev CL:=Bool×List Int×List Int×Unit
def wtZ {α:Type}:List CL->List α->List (Bool×α×α×Unit)
 | x::c,a::b::r=>(x.1,a,b,())::wtZ c r
 | _,_=> []
theorem zzz {α:Type}: ∀(c:List CL) (xs:List α),2*c.length<=xs.length->(wtZ c xs).length=c.length
 | [],_,_=>by simp [wtZ]
 | x::c,[],h=>by simp at h
 | x::c,[a],h=>by simp at h;omega
 | x::c,a::b::r,h=>by
  simp only [wtZ,qD];rw [zzz c r (by simp at h;omega)]
theorem zCe {α:Type}: ∀(c:List CL) (xs:List α) (j:Nat) (hj:j<c.length) (h:2*c.length<=xs.length) (h1:j<(wtZ c xs).length) (h2:2*j<xs.length) (h3:2*j+1<xs.length),(wtZ c xs)[j]=((c[j]).1,xs[2*j],xs[2*j+1],())
 | [],_,j,hj,_,_,_,_=>by simp at hj
 | x::c,[],_,_,h,_,_,_=>by simp at h
 | x::c,[a],_,_,h,_,_,_=>by simp at h;omega
 | x::c,a::b::r,0,_,_,_,_,_=>rfl
 | x::c,a::b::r,j+1,hj,h,h1,h2,h3=>by
  simp only [qD] at hj h h2 h3;have ih:=zCe c r j (by omega) (by omega) (by simpa [wtZ] using h1) (by omega) (by omega);simp only [wtZ,List.getElem_cons_succ,ih];rfl
def wtF:Nat->List (List Nat)->List (List Nat)
 | n+1,a::b::r=>(a++b)::wtF n r
 | _,_=> []
theorem zGj: ∀(n:Nat) (Fs:List (List Nat)),2*n<=Fs.length->(wtF n Fs).length=n
 | 0,_,_=>by simp [wtF]
 | n+1,[],h=>by simp at h
 | n+1,[a],h=>by simp at h;omega
 | n+1,a::b::r,h=>by simp only [wtF,qD];rw [zGj n r (by simp at h;omega)]
theorem zGd: ∀(n:Nat) (Fs:List (List Nat)) (j:Nat) (_hj:j<n) (_h:2*n<=Fs.length) (h1:j<(wtF n Fs).length) (h2:2*j<Fs.length) (h3:2*j+1<Fs.length),(wtF n Fs)[j]=Fs[2*j]++Fs[2*j+1]
 | 0,_,j,hj,_,_,_,_=>by omega
 | n+1,[],_,_,h,_,_,_=>by simp at h
 | n+1,[a],_,_,h,_,_,_=>by simp at h;omega
 | n+1,a::b::r,0,_,_,_,_,_=>rfl
 | n+1,a::b::r,j+1,hj,h,h1,h2,h3=>by
  simp only [qD] at h h2 h3;have ih:=zGd n r j (by omega) (by omega) (by simpa [wtF] using h1) (by omega) (by omega);simp only [wtF,List.getElem_cons_succ,ih];rfl
theorem zCG: ∀(n:Nat) (Fs:List (List Nat)),(wtF n Fs).flatten.Sublist Fs.flatten
 | 0,_=>by simp [wtF]
 | n+1,[]=>by simp [wtF]
 | n+1,[a]=>by simp [wtF]
 | n+1,a::b::r=>by
  simp only [wtF,List.flatten_cons,qE];exact (List.Sublist.refl a).append ((List.Sublist.refl b).append (zCG n r))
theorem zLA {m:Mem} {N:Nat->Prop} {p:Bool} {v1 v2:Value} {cs:List Value} {F:List Nat} (h:RepT m N tyLq (p,v1,v2,()) cs F) {m':Mem} {N':Nat->Prop} {x1 x2:List Int} {F1 F2:List Nat} (h1:RepT m' N' (.own tyI) x1 [v1] F1) (h2:RepT m' N' (.own tyI) x2 [v2] F2):
  F= []∧RepT m' N' tyLo (p,x1,x2,()) cs (F1++F2):=by
 obtain ⟨c1,c2,G1,G2,e1,e2,⟨hc,hG⟩,⟨c3,c4,G3,G4,e3,e4,⟨g3,k3,_⟩,⟨c5,c6,G5,G6,e5,e6,⟨g5,k5,_⟩,⟨hc6,g6⟩⟩⟩⟩:=h;subst e2;subst e4;subst e6;subst hG;subst g3;subst g5;subst g6;subst e1;subst e3;subst e5;subst hc;subst hc6;refine ⟨rfl,[.bool p],[v1,v2],[],F1++F2,?_,rfl,⟨rfl,rfl⟩,[v1],[v2],F1,F2,rfl,rfl,h1,[v2],[],F2,[],rfl,by simp,h2,rfl,rfl⟩;have k3':c3= [v1]:=k3;have k5':c5= [v2]:=k5;rw [k3',k5'];rfl
def QCalls (P:Program) (f:Nat):Prop:=
 ∀(c:List CL) (vs:List Value) (w:World) (N:Nat->Prop) (us:List Value),c.length<=1000000->2*c.length<=vs.length->RepAs (memOf w) N (.cons (.sl tyLs) (.cons (.sl .opq) .nil)) (c,vs,()) us []->(∀k,N k->k<w.heap.size)->
  Calls P f us.toArray w (Post fun v w'=> ∃N' rs G1,Moves w w' []∧(∀k,N k->N' k)∧(∀k,N' k->N k∨w.heap.size<=k)∧(∀k,N' k->k<w'.heap.size)∧v=retOf rs∧
   RepAs (memOf w') N' (.cons (.own tyLq) .nil) (wtZ c vs,()) rs G1∧G1.Nodup∧ ∀k∈G1,k<w'.heap.size∧ ¬N' k∧w.heap.size<=k)
theorem zJX {P:Program} {f:Nat} (hq:QCalls P f) (c:List CL) (xs:List (List Int)) (hc:c.length<=1000000) (hl:2*c.length<=xs.length) (w:World) (N:Nat->Prop) (us:List Value) (G:List Nat)
  (hr:RepAs (memOf w) N (.cons (.sl tyLs) (.cons (.own (.own tyI)) .nil)) (c,xs,()) us G) (hnd:G.Nodup) (hG: ∀k∈G,k<w.heap.size∧ ¬N k) (hN: ∀k,N k->k<w.heap.size):
  Calls P f us.toArray w (Post fun v w'=> ∃N' rs G1,Moves w w' G∧(∀k,N k->N' k)∧(∀k,N' k->N k∨k∈G∨w.heap.size<=k)∧(∀k,N' k->k<w'.heap.size)∧v=retOf rs∧
   RepAs (memOf w') N' (.cons (.own tyLo) .nil) (wtZ c xs,()) rs G1∧G1.Nodup∧ ∀k∈G1,k<w'.heap.size∧ ¬N' k∧(k∈G∨w.heap.size<=k)):=by
 match us,hr with
 | [u1,u2],⟨F1,F2,e1,h1,F3,F4,e2,h2,h3,h4⟩=>
  subst e1;subst e2;subst h4;have h1':RepT (memOf w) N (.sl tyLs) c [u1] F1:=by simpa [RepA,Ty.isAgg] using h1
  have h2':RepT (memOf w) N (.own (.own tyI)) xs [u2] F3:=by simpa [RepA,Ty.isAgg] using h2
  obtain rfl:F1= []:=RepT.imm (τ:= .sl tyLs) rfl h1';simp only [qC,qP] at hnd hG ⊢
  obtain ⟨N0,vs,Fs,hvl,hfl,hrow,hsl,hN0,hN0u,hN0F,hFs⟩: ∃(N0:Nat->Prop) (vs:List Value) (Fs:List (List Nat)),vs.length=xs.length∧Fs.length=xs.length∧
    (∀(i:Nat) (hi:i<xs.length) (h':i<vs.length) (h'':i<Fs.length),RepT (memOf w) N (.own tyI) xs[i] [vs[i]] Fs[i])∧RepT (memOf w) N0 (.sl .opq) vs [u2] []∧(∀k,N k->N0 k)∧(∀k,N0 k->N k∨k∈F3)∧(∀k∈Fs.flatten,¬N0 k)∧Fs.flatten.Sublist F3:=by
   rcases h2' with ⟨a,k1,k2,k3⟩ | ⟨g,cap,cc,T,es,Fs,k1,k2,k3,k4,k5,k6,k7,k8,k9,k10⟩
   ·refine ⟨N,[],[],by rw [k2];rfl,by rw [k2];rfl,fun i hi h'=>absurd h' (by simp),⟨rfl,a,0,[],by simpa using k1,ql _,rfl,fun i h=>absurd h (by simp),fun h=>absurd rfl h⟩,fun _ h=>h,fun _ h=> .inl h,by simp,by simp⟩
   ·have hone: ∀(i:Nat) (hi:i<es.length),∃v,es[i]= [v]:=by
     intro i hi;have:=(k8 i (by omega) hi (by omega)).len
     match h:es[i],this with
     | [v],_=>exact ⟨v,rfl⟩
    let vs:List Value:=es.map fun e=>e.headD undef
    have hv: ∀(i:Nat) (hi:i<es.length) (h':i<vs.length),es[i]= [vs[i]]:=by
     intro i hi h';obtain ⟨v,e⟩:=hone i hi;simp only [vs,List.getElem_map,e,List.headD_cons]
    have hvl:vs.length=xs.length:=by simp only [vs,qV];exact k6
    subst k10;have hn:=List.nodup_cons.1 hnd;refine ⟨fun k=>N k∨k=g,vs,Fs,hvl,k7,fun i hi h' h''=>?_,⟨rfl,some ⟨g,0,none⟩,cap,vs.map fun v=> [v],by rw [hvl];simpa using k1,by rw [hvl];exact k4,by simp,fun i hi hi'=>?_,fun _=>⟨g,0,rfl,.inr rfl,cc,T,(0,0),k2,fun j v hj=>?_⟩⟩,fun _ h=> .inl h,fun k h=>h.imp id (fun e=>by rw [e];exact qv ..),fun k hk h=>?_,List.sublist_cons_self _ _⟩
    ·have:=k8 i hi (by omega) h''
     rwa [hv i (by omega) h'] at this
    ·have h1:=k8 i (by omega) (by omega) (by omega);have h2:=RepT.one' h1 vs[i] (by rw [hv i (by omega) hi];simp);exact ⟨rfl,by simp,h2⟩
    ·have hfe:(vs.map fun v=> [v]).flatten=es.flatten:=by
      congr 1;apply List.ext_getElem (by simp [vs]);intro i h1 h2;rw [hv i h2 (by simp [vs];exact h2)];simp
     rw [hfe] at hj;rw [<-k9,List.getElem?_take] at hj;split at hj
     ·simpa using hj
     ·cases hj
    ·rcases h with h | h
     ·exact (hG k (qn _ hk)).2 h
     ·subst h;exact hn.1 hk
  have h1q:RepT (memOf w) N0 (.sl tyLs) c [u1] []:=RepT.mono (fun b hb=>⟨hN0 b hb,rfl⟩) (by simp) h1'
  have hq':=hq c vs w N0 [u1,u2] hc (by omega) ⟨[],[],rfl,by simpa [RepA,Ty.isAgg] using h1q,[],[],rfl,by simpa [RepA,Ty.isAgg] using hsl,⟨h3,rfl⟩⟩ (fun k hk=>by
   rcases hN0u k hk with h | h
   ·exact hN k h
   ·exact (hG k h).1)
  refine Calls.mono hq' (fun e w' hp=>?_)
  cases e with
  | returned v=>
   obtain ⟨N',rs,G1,hmv,hup,hnew,hlt,hv,hrep,hgn,hgo⟩:=hp;have hmem: ∀k,k<w.heap.size->memOf w' k=memOf w k:=fun k hk=>hmv.block k hk (by simp)
   have hrows: ∀(i:Nat) (hi:i<xs.length) (h':i<vs.length) (h'':i<Fs.length),RepT (memOf w') N' (.own tyI) xs[i] [vs[i]] Fs[i]:=fun i hi h' h''=>
    RepT.mono (fun b hb=>⟨hup b (hN0 b hb),hmem b (hN b hb)⟩) (fun k hk=>hmem k (hG k (hFs.subset (List.mem_flatten.2 ⟨_,qi h'',hk⟩))).1) (hrow i hi h' h'')
   match rs,hrep with
   | [r],⟨Fa,Fb,e1,hra,hrb,hFb⟩=>
    subst e1;subst hFb;have hra':RepT (memOf w') N' (.own tyLq) (wtZ c vs) [r] Fa:=by simpa [RepA,Ty.isAgg] using hra
    have hlv:=zzz c vs (by omega);have hlx:=zzz c xs hl;simp only [qP] at hgn hgo;have sub2:(wtF c.length Fs).flatten.Sublist F3:=(zCG c.length Fs).trans hFs
    have fin: ∃G1',RepT (memOf w') N' (.own tyLo) (wtZ c xs) [r] G1'∧G1'.Nodup∧ ∀k∈G1',k<w'.heap.size∧ ¬N' k∧(k∈F3∨w.heap.size<=k):=by
     rcases hra' with ⟨a,k1,k2,k3⟩ | ⟨g,cap,cc,T,es,Gs,k1,k2,k3,k4,k5,k6,k7,k8,k9,k10⟩
     ·have hc0:c.length=0:=by rw [<-hlv,k2];rfl
      have hx0:wtZ c xs= []:=wd.1 (by omega);exact ⟨[],.inl ⟨a,k1,hx0,rfl⟩,List.nodup_nil,by simp⟩
     ·have hmemG: ∀k∈(wtF c.length Fs).flatten,k<w'.heap.size∧ ¬N' k∧(k∈F3∨w.heap.size<=k):=fun k hk=>by
       have hk3:=sub2.subset hk;have h1:=hG k hk3;refine ⟨Nat.lt_of_lt_of_le h1.1 hmv.size,fun h=>?_,.inl hk3⟩;rcases hnew k h with h | h
       ·exact hN0F k ((zCG c.length Fs).subset hk) h
       ·omega
      have hg:=hgo g (by rw [k10];exact qv ..);refine ⟨g::(wtF c.length Fs).flatten,.inr ⟨g,cap,cc,T,es,wtF c.length Fs,by rw [hlx,<-hlv];exact k1,k2,k3,by rw [hlx,<-hlv];exact k4,k5,by rw [hlx,<-hlv];exact k6,by rw [zGj _ _ (by omega),hlx],fun j hj hj' hj''=>?_,k9,rfl⟩,List.nodup_cons.2 ⟨fun hk=>?_,hnd.sublist sub2⟩,fun k hk=>?_⟩
      ·have hjc:j<c.length:=by rw [<-hlx];exact hj
       have hjq:j<(wtZ c vs).length:=by omega
       have h8:=k8 j hjq hj' (by omega);rw [show (show List tyLq.den from wtZ c vs)[j]'hjq=((c[j]).1,vs[2*j],vs[2*j+1],()) from zCe c vs j hjc (by omega) hjq (by omega) (by omega)] at h8;rw [show (show List tyLo.den from wtZ c xs)[j]'hj=((c[j]).1,xs[2*j],xs[2*j+1],()) from zCe c xs j hjc hl hj (by omega) (by omega),zGd c.length Fs j hjc (by omega) hj'' (by omega) (by omega)];exact (zLA h8 (hrows (2*j) (by omega) (by omega) (by omega)) (hrows (2*j+1) (by omega) (by omega) (by omega))).2
      ·have:=(hG g (sub2.subset hk)).1;have:=hg.2.2;omega
      ·rcases qz.1 hk with rfl | hk
       ·exact ⟨hg.1,hg.2.1,.inr hg.2.2⟩
       ·exact hmemG k hk
    obtain ⟨G1',f1,f2,f3⟩:=fin;refine ⟨N',[r],G1',hmv.weaken (by simp),fun k hk=>hup k (hN0 k hk),fun k hk=>?_,hlt,hv,⟨G1',[],by simp,by simpa [RepA,Ty.isAgg] using f1,⟨hrb,rfl⟩⟩,f2,f3⟩;rcases hnew k hk with h | h
    ·rcases hN0u k h with h | h
     ·exact .inl h
     ·exact .inr (.inl h)
    ·exact .inr (.inr h)
  | _=>exact hp.elim
end Go.Proofs.YtchkojfhcdcnmaaGreatMd.Ev
