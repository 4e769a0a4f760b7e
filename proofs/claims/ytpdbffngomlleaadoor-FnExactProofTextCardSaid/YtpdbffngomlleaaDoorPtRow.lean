/- A text of its own: Row; no condition but those that each theorem names. -/
import Derived.Test.YtpdbffngomlleaaDoorTie
import Derived.Test.YtpdbffngomlleaaDoorCards
import Derived.SevenTiedAt
import Derived.LaidMore
import Derived.MakeChecks
import Derived.Stop.LaidErr
import Derived.Lib.LaidTab
import Derived.Stop.Joined
import Derived.Test.YtpdbffngomlleaaDoorRows
import Derived.Test.YtpdbffngomlleaaDoorPtEvIt
import Derived.Test.YtpdbffngomlleaaDoorPtRFk
import Derived.Test.YtpdbffngomlleaaDoorPtCl
import Derived.WalkKit
import Derived.ProofKit
import Derived.OpenShut
import Derived.ChangeOld
import Derived.Below
import Derived.SizedLaws
import Derived.Carry
namespace Go.Proofs.YtpdbffngomlleaaDoor.fnExactProofText
open Go.ChangeShapes Go.WideShapes Go.ChangeAt Go.RowKit Go.Proofs.YtpdbffngomlleaaDoorPt.Ev
set_option linter.unusedVariables false
set_option maxRecDepth 100000
theorem own : ownKnob Tryd.prog.godebug = none := by kernel_rfl
theorem laid : laidOutB Tryd.prog = true := by kernel_rfl
theorem mixed : E1.P.follows .mixedOrders = true := by kernel_rfl
theorem law_plain (s : ((.agg (fs [(.sl (.int .i64))])) : Ty).den) (a : ((.sl (.agg (fs [(.int .i64), (.sl (.int .i64)), (.sl (.int .i64)), (.sl (.agg (fs [.bool, (.sl (.int .i64)), (.sl (.int .i64))])))]))) : Ty).den) (h0 : wfT (.agg (fs [(.sl (.int .i64))])) s) (h1 : wfT (.sl (.agg (fs [(.int .i64), (.sl (.int .i64)), (.sl (.int .i64)), (.sl (.agg (fs [.bool, (.sl (.int .i64)), (.sl (.int .i64))])))]))) a) : zav M s a = some ((true, ()), ()) :=
  zfe s a (by have := h0.1.1; unfold maxLen at this; exact this) (by have := h1.1; unfold maxLen at this; exact this) (fun x hx => by
    have h := h1.2 x hx
    exact ⟨by have := h.2.1.1; unfold maxLen at this; exact this, by have := h.2.2.1.1; unfold maxLen at this; exact this, by have := h.2.2.2.1.1; unfold maxLen at this; exact this, fun y hy => ⟨by have := (h.2.2.2.1.2 y hy).2.1.1; unfold maxLen at this; exact this, by have := (h.2.2.2.1.2 y hy).2.2.1.1; unfold maxLen at this; exact this⟩⟩)
theorem dt0 : dtP Tryd.prog 20 24 = some ((.agg (fs [(.sl (.int .i64))])) : Ty) := by kernel_rfl
theorem dt1 : dtP Tryd.prog 20 25 = some ((.sl (.agg (fs [(.int .i64), (.sl (.int .i64)), (.sl (.int .i64)), (.sl (.agg (fs [.bool, (.sl (.int .i64)), (.sl (.int .i64))])))]))) : Ty) := by kernel_rfl
theorem runs (w : World) (v0 v1 : Value) (x0 : ((.agg (fs [(.sl (.int .i64))])) : Ty).den) (x1 : ((.sl (.agg (fs [(.int .i64), (.sl (.int .i64)), (.sl (.int .i64)), (.sl (.agg (fs [.bool, (.sl (.int .i64)), (.sl (.int .i64))])))]))) : Ty).den) (h0 : RepA (memOf w) (fun k => k < w.heap.size) ((.agg (fs [(.sl (.int .i64))])) : Ty) x0 v0 []) (h1 : RepA (memOf w) (fun k => k < w.heap.size) ((.sl (.agg (fs [(.int .i64), (.sl (.int .i64)), (.sl (.int .i64)), (.sl (.agg (fs [.bool, (.sl (.int .i64)), (.sl (.int .i64))])))]))) : Ty) x1 v1 []) (w0 : wfT ((.agg (fs [(.sl (.int .i64))])) : Ty) x0) (w1 : wfT ((.sl (.agg (fs [(.int .i64), (.sl (.int .i64)), (.sl (.int .i64)), (.sl (.agg (fs [.bool, (.sl (.int .i64)), (.sl (.int .i64))])))]))) : Ty) x1) (htab : E1.tabs w (fun k => k < w.heap.size)) : Calls Tryd.prog 3 #[v0, v1] w (fun e w' => e = .returned (.bool true) ∧ Below w.heap.size w w') := by
  have hp := law_plain x0 x1 w0 w1
  have hr : RepAs (memOf w) (fun k => k < w.heap.size) (E1.ps 3) (x0, x1, ()) [v0, v1] [] := ⟨[], [], rfl, h0, ⟨[], [], rfl, h1, ⟨rfl, rfl⟩⟩⟩
  refine (zj8 extOk mixed (f := 3) (yz := ((true, ()), ())) hp hr htab).mono fun e w' h => ?_
  obtain ⟨bel, N', rs, G1, he, hrep⟩ := h
  exact ⟨by rw [he, zkr hrep], bel⟩
theorem met (os : Os) (args : Array Value) : laidMetH Tryd.prog Rows.fnExactProofTextRow.laid ((World.doorLaid Tryd.prog 400 os).forCall (fun _ _ => 0) ⟨#[], args, []⟩).memory :=
  laidMetH_of_parts3 (fuel := 8) (laidMet_of_run' 8 (by kernel_rfl) (by kernel_rfl)) (by kernel_rfl) (by kernel_rfl)
theorem tabs {W : World} (h : laidMetH Tryd.prog Rows.fnExactProofTextRow.laid W) : E1.tabs W (fun k => k < W.heap.size) := by
  rw [MakeChecks.laidMetH_plain _ _ _ (by kernel_rfl)] at h
  exact zkO tabE tabG (Lib.tabIs_of_head (t := 111) (e := 100) (n := 20) tabG (by kernel_rfl) Tryd.underlying111 Tryd.underlying100 (by kernel_rfl) (by kernel_rfl) (h.tail.tail))
theorem lifted (os : Os) (started : os.Started) (H : Type) (enc : TypeId × Value → H) :
    ReturnsInHanded {} Tryd.checked os 3 .any (fun w args => (Rows.fnExactProofTextSpec.pre enc Tryd.prog Tryd.f3 [] false w args ∧ laidMetH Tryd.prog Rows.fnExactProofTextRow.laid w) ∧ sizedMet enc Tryd.prog Tryd.f3 (OpenSpec.ofChange Rows.fnExactProofTextSpec) false w args) (Rows.fnExactProofTextSpec.post enc Tryd.prog Tryd.f3 false true false false) := by
  refine returnsInHanded_of_change_and (C := Tryd.checked) (X := fun w _ => laidMetH Tryd.prog Rows.fnExactProofTextRow.laid w) (fun _ _ _ hh h => h.of_heap hh) own started (by kernel_rfl) Tryd.func3
    (ChangeSpec.witness_shaped (enc := enc) (C := Tryd.checked) (os := os) (X := fun w _ => laidMetH Tryd.prog Rows.fnExactProofTextRow.laid w) false (World.doorLaid Tryd.prog 400 os) #[.agg #[.slice none 0 0], .slice none 0 0] 8 rfl (World.shaped_of_RefB (by kernel_rfl) (by kernel_rfl)) (by kernel_rfl) (by kernel_rfl) (by kernel_rfl) (met os _)) ?_
  intro W base args ds gs before hval0 hW hcnd hsz0 hL _
  have hval : ∀ (j : Nat) t v, Tryd.f3.params[j]? = some t → args[j]? = some v → Value.okWide Tryd.prog W .any base t v := hval0
  have hW' := hW
  obtain ⟨p, q, hA0, hV, rfl, hfz, hnd⟩ := hW
  have hA : DataW.TrodAll enc Tryd.prog W 0 (fun _ => true) true Tryd.f3.params.toList args.toList ds p := hA0
  rw [Tryd.params3] at hA hval
  obtain ⟨v0, vs0, d0, ds0, p0, q0, hargs, rfl, rfl, h0, r0⟩ := trodAll_cons hA
  obtain ⟨v1, vs1, d1, ds1, p1, q1, rfl, rfl, rfl, h1, r1⟩ := trodAll_cons r0
  obtain ⟨rfl, rfl, rfl⟩ := trodAll_nil r1
  obtain rfl : args = #[v0, v1] := by cases args; simp_all
  obtain ⟨rfl, rfl⟩ := trodVars_none hV
  obtain ⟨x0, a0, b0⟩ := zh4 dt0 (hval 0 24 v0 rfl rfl) h0
  obtain ⟨x1, a1, b1⟩ := zh4 dt1 (hval 1 25 v1 rfl rfl) h1
  refine (runs W v0 v1 x0 x1 a0 a1 b0 b1 (tabs hL)).mono fun e W' ⟨he, bel⟩ => ?_
  subst he
  have hlt := hW'.lt
  exact ⟨_, rfl, _, _, _, [], _, [], hW', trodAll_mk1 (shut_bool Tryd.underlying4 _), (trodAll_cons_mk (Below.trod laid (by kernel_rfl) (of_decide_eq_true (by kernel_rfl)) h0 bel (fun x hx => hlt x (by simp [hx]))) (trodAll_cons_mk (Below.trod laid (by kernel_rfl) (of_decide_eq_true (by kernel_rfl)) h1 bel (fun x hx => hlt x (by simp [hx]))) trodAll_mk0)), rfl, bel.frame _, fun h => by cases h⟩
theorem over : Rows.fnExactProofTextRow.holds Tryd.pinned (OpenSpec.ofChange Rows.fnExactProofTextSpec) :=
  OpenClaim.holds_of_wide 3 Tryd.f3 rfl rfl rfl rfl rfl rfl rfl ⟨rfl, rfl, rfl, rfl, rfl⟩ rfl rfl rfl rfl rfl (by kernel_rfl) Tryd.func3 (by kernel_rfl)
    (of_decide_eq_true (by kernel_rfl)) (by unfold Func.isWrapper; first | (rw [if_pos (by decide +kernel)]; kernel_rfl) | (rw [if_neg (by decide +kernel)]; exact ⟨rfl, rfl⟩))
    (fun os started H enc _ => lifted os started H enc)
theorem card : Rows.FnExactProofTextCardSaid :=
  Claim7.holds_tied_plain_at .later [] [.data, .data, .data] true (true, "8da1bf42851e9f60aafd510f59a1e0dc01c20f91172fd4bd8571c9da8c29832b") false
    over (fun _ h => by cases h) (by kernel_rfl) (fun _ h => by cases h) fnExactProofText_row_tie rfl ⟨rfl, rfl⟩ (by kernel_rfl) rfl
    (fun f fn hf hfn => by
      obtain rfl : f = 3 := Option.some.inj ((show Tryd.prog.funcNamed Rows.fnExactProofTextRow.func = some 3 by kernel_rfl).symm.trans hf) |>.symm
      obtain rfl : fn = Tryd.f3 := (Option.some.inj (Tryd.func3.symm.trans hfn)).symm
      exact ⟨by kernel_rfl, fun j t ht => by
        rw [Tryd.params3] at ht
        have hm : t ∈ [24, 25] := by simpa using Array.mem_of_getElem? ht
        have hall : ([24, 25].all fun u => !Tryd.prog.wantsStandIn u) = true := by kernel_rfl
        exact (show Tryd.prog.wantsStandIn t = false by simpa using List.all_eq_true.1 hall t hm)⟩)
    (by kernel_rfl)
end Go.Proofs.YtpdbffngomlleaaDoor.fnExactProofText
namespace Go.Proofs.YtpdbffngomlleaaDoor
theorem fnExactProofText_holds : Rows.FnExactProofTextCardSaid := fnExactProofText.card
#print axioms fnExactProofText_holds
end Go.Proofs.YtpdbffngomlleaaDoor
