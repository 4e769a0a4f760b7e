/- A text of its own: Row; no condition but those that each theorem names. -/
import Derived.Test.YtchkojfhcdcnmaaGreatRows
import Derived.Test.YtchkojfhcdcnmaaGreatMdEvWt
import Derived.Test.YtchkojfhcdcnmaaGreatMdYCb
import Derived.Test.YtchkojfhcdcnmaaGreatMdCl
import Derived.WalkKit
import Derived.ProofKit
import Derived.OpenShut
import Derived.ChangeOld
import Derived.Below
import Derived.SizedLaws
import Derived.Carry
namespace Go.Proofs.YtchkojfhcdcnmaaGreat.fnMade
open Go.ChangeShapes Go.WideShapes Go.ChangeAt Go.RowKit Go.Proofs.YtchkojfhcdcnmaaGreatMd.Ev
set_option linter.unusedVariables false
set_option maxRecDepth 100000
theorem own:ownKnob Tryz.prog.godebug=none:=by kernel_rfl
theorem laid:laidOutB Tryz.prog=true:=by kernel_rfl
theorem mixed:E1.P.follows .mixedOrders=true:=by kernel_rfl
theorem law_plain (a:((.sl (.int .u8)):Ty).den) (b:((.sl (.int .u8)):Ty).den) (h0:wfT (.sl (.int .u8)) a) (h1:wfT (.sl (.int .u8)) b):zpU M2 a b=some ((true,()),()):=
  zJS a b (fun x hx=>bounds_u8 (h0.2 x hx)) (fun x hx=>bounds_u8 (h1.2 x hx)) (by have:=h0.1;unfold maxLen at this;exact this) (by have:=h1.1;unfold maxLen at this;exact this)
theorem dt0:dtP Tryz.prog 20 44=some ((.sl (.int .u8)):Ty):=by kernel_rfl
theorem dt1:dtP Tryz.prog 20 44=some ((.sl (.int .u8)):Ty):=by kernel_rfl
theorem runs (w:World) (v0 v1:Value) (x0:((.sl (.int .u8)):Ty).den) (x1:((.sl (.int .u8)):Ty).den) (h0:RepA (memOf w) (fun k=>k<w.heap.size) ((.sl (.int .u8)):Ty) x0 v0 []) (h1:RepA (memOf w) (fun k=>k<w.heap.size) ((.sl (.int .u8)):Ty) x1 v1 []) (w0:wfT ((.sl (.int .u8)):Ty) x0) (w1:wfT ((.sl (.int .u8)):Ty) x1):Calls Tryz.prog 5 #[v0,v1] w (fun e w'=>e= .returned (.bool true)∧Below w.heap.size w w'):=by
  have hp:=law_plain x0 x1 w0 w1;have hr:RepAs (memOf w) (fun k=>k<w.heap.size) (E1.ps 5) (x0,x1,()) [v0,v1] []:=⟨[],[],rfl,h0,⟨[],[],rfl,h1,⟨rfl,rfl⟩⟩⟩;refine (zIh extOk mixed (zMn extOk mixed) (f:=5) (yz:=((true,()),())) hp hr (Env.tabs_nil rfl w _)).mono fun e w' h=>?_
  obtain ⟨bel,N',rs,G1,he,hrep⟩:=h;exact ⟨by rw [he,zJ2 hrep],bel⟩
theorem lifted (os:Os) (started:os.Started) (H:Type) (enc:TypeId×Value->H):
    ReturnsInHanded {} Tryz.checked os 5 .any (Rows.fnMadeSpec.pre6 enc Tryz.prog Tryz.f5 Rows.fnMadeRow.domain false) (Rows.fnMadeSpec.post enc Tryz.prog Tryz.f5 false true false false):=by
  refine returnsInHanded_of_change_sized (C:=Tryz.checked) own started (by kernel_rfl) Tryz.func5
    (ChangeSpec.witness6 (enc:=enc) (C:=Tryz.checked) false ⟨#[], #[.slice none 0 0,.slice none 0 0],[]⟩ 8 (by kernel_rfl) (by kernel_rfl) (by kernel_rfl) (by kernel_rfl)) ?_
  intro W base args ds gs before hval0 hW hcnd hsz0 _;have hval: ∀(j:Nat) t v,Tryz.f5.params[j]?=some t->args[j]?=some v->Value.okWide Tryz.prog W .any base t v:=hval0;have hW':=hW;obtain ⟨p,q,hA0,hV,rfl,hfz,hnd⟩:=hW;have hA:DataW.TrodAll enc Tryz.prog W 0 (fun _=>true) true Tryz.f5.params.toList args.toList ds p:=hA0;rw [Tryz.params5] at hA hval;obtain ⟨v0,vs0,d0,ds0,p0,q0,hargs,rfl,rfl,h0,r0⟩:=trodAll_cons hA;obtain ⟨v1,vs1,d1,ds1,p1,q1,rfl,rfl,rfl,h1,r1⟩:=trodAll_cons r0;obtain ⟨rfl,rfl,rfl⟩:=trodAll_nil r1;obtain rfl:args= #[v0,v1]:=by cases args;simp_all
  obtain ⟨rfl,rfl⟩:=trodVars_none hV;obtain ⟨x0,a0,b0⟩:=zD5 dt0 (hval 0 44 v0 rfl rfl) h0;obtain ⟨x1,a1,b1⟩:=zD5 dt1 (hval 1 44 v1 rfl rfl) h1;refine (runs W v0 v1 x0 x1 a0 a1 b0 b1).mono fun e W' ⟨he,bel⟩=>?_
  subst he;have hlt:=hW'.lt;exact ⟨_,rfl,_,_,_,[],_,[],hW',trodAll_mk1 (shut_bool Tryz.underlying4 _),(trodAll_cons_mk (Below.trod laid (by kernel_rfl) (of_decide_eq_true (by kernel_rfl)) h0 bel (fun x hx=>hlt x (by simp [hx]))) (trodAll_cons_mk (Below.trod laid (by kernel_rfl) (of_decide_eq_true (by kernel_rfl)) h1 bel (fun x hx=>hlt x (by simp [hx]))) trodAll_mk0)),rfl,bel.frame _,fun h=>by cases h⟩
theorem over:Rows.fnMadeRow.holds Tryz.pinned (OpenSpec.ofChange Rows.fnMadeSpec):=
  OpenClaim.holds_of_wide 5 Tryz.f5 rfl rfl rfl rfl rfl rfl rfl ⟨rfl,rfl,rfl,rfl,rfl⟩ rfl rfl rfl rfl rfl (by kernel_rfl) Tryz.func5 (by kernel_rfl)
    (of_decide_eq_true (by kernel_rfl)) (by unfold Func.isWrapper;first | (rw [qb (by decide+kernel)];kernel_rfl) | (rw [qc (by decide+kernel)];exact ⟨rfl,rfl⟩))
    (fun os started H enc _=>lifted os started H enc)
end Go.Proofs.YtchkojfhcdcnmaaGreat.fnMade
namespace Go.Proofs.YtchkojfhcdcnmaaGreat
theorem fnMade_holds:Rows.FnMadeSaid:=fnMade.over
#print axioms fnMade_holds
end Go.Proofs.YtchkojfhcdcnmaaGreat
