/- A text of its own: Row; no condition but those that each theorem names. -/
import Derived.Test.YtndnhbihcnlpaaaDoorTie
import Derived.Test.YtndnhbihcnlpaaaDoorCards
import Derived.SevenTiedAt
import Derived.LaidMore
import Derived.MakeChecks
import Derived.Stop.LaidErr
import Derived.Lib.LaidTab
import Derived.Stop.Joined
import Derived.Test.YtndnhbihcnlpaaaDoorRows
import Derived.Test.YtndnhbihcnlpaaaDoorStEvWt
import Derived.Test.YtndnhbihcnlpaaaDoorStRFg
import Derived.Test.YtndnhbihcnlpaaaDoorStCl
import Derived.WalkKit
import Derived.ProofKit
import Derived.OpenShut
import Derived.ChangeOld
import Derived.Below
import Derived.SizedLaws
import Derived.Carry
/- FnExactStepText answers true at every input and leaves it as it was: its plain law is joined to its row. No condition but the row's own. -/
namespace Go.Proofs.YtndnhbihcnlpaaaDoor.fnExactStepText
open Go.ChangeShapes Go.WideShapes Go.ChangeAt Go.RowKit Go.Proofs.YtndnhbihcnlpaaaDoorSt.Ev
set_option linter.unusedVariables false
set_option maxRecDepth 100000
theorem own : ownKnob Tryd.prog.godebug = none := by kernel_rfl
theorem laid : laidOutB Tryd.prog = true := by kernel_rfl
theorem mixed : E1.P.follows .mixedOrders = true := by kernel_rfl
theorem law_plain (s : ((.agg (fs [(.sl (.int .i64))])) : Ty).den) (c : ((.agg (fs [(.int .i64), (.sl (.int .i64)), (.sl (.int .i64)), (.sl (.agg (fs [.bool, (.sl (.int .i64)), (.sl (.int .i64))])))])) : Ty).den) (h0 : wfT (.agg (fs [(.sl (.int .i64))])) s) (h1 : wfT (.agg (fs [(.int .i64), (.sl (.int .i64)), (.sl (.int .i64)), (.sl (.agg (fs [.bool, (.sl (.int .i64)), (.sl (.int .i64))])))])) c) : c_laws_FnExactStepText M s c = some ((true, ()), ()) :=
  p_FnExactStepText s c (by have := h0.1.1; unfold maxLen at this; exact this) ⟨by have := h1.2.1.1; unfold maxLen at this; exact this, by have := h1.2.2.1.1; unfold maxLen at this; exact this, by have := h1.2.2.2.1.1; unfold maxLen at this; exact this, fun y hy => ⟨by have := (h1.2.2.2.1.2 y hy).2.1.1; unfold maxLen at this; exact this, by have := (h1.2.2.2.1.2 y hy).2.2.1.1; unfold maxLen at this; exact this⟩⟩

theorem dt0 : dtP Tryd.prog 20 24 = some ((.agg (fs [(.sl (.int .i64))])) : Ty) := by kernel_rfl
theorem dt1 : dtP Tryd.prog 20 39 = some ((.agg (fs [(.int .i64), (.sl (.int .i64)), (.sl (.int .i64)), (.sl (.agg (fs [.bool, (.sl (.int .i64)), (.sl (.int .i64))])))])) : Ty) := by kernel_rfl
theorem runs (w : World) (v0 v1 : Value) (x0 : ((.agg (fs [(.sl (.int .i64))])) : Ty).den) (x1 : ((.agg (fs [(.int .i64), (.sl (.int .i64)), (.sl (.int .i64)), (.sl (.agg (fs [.bool, (.sl (.int .i64)), (.sl (.int .i64))])))])) : Ty).den) (h0 : RepA (memOf w) (fun k => k < w.heap.size) ((.agg (fs [(.sl (.int .i64))])) : Ty) x0 v0 []) (h1 : RepA (memOf w) (fun k => k < w.heap.size) ((.agg (fs [(.int .i64), (.sl (.int .i64)), (.sl (.int .i64)), (.sl (.agg (fs [.bool, (.sl (.int .i64)), (.sl (.int .i64))])))])) : Ty) x1 v1 []) (w0 : wfT ((.agg (fs [(.sl (.int .i64))])) : Ty) x0) (w1 : wfT ((.agg (fs [(.int .i64), (.sl (.int .i64)), (.sl (.int .i64)), (.sl (.agg (fs [.bool, (.sl (.int .i64)), (.sl (.int .i64))])))])) : Ty) x1) (htab : E1.tabs w (fun k => k < w.heap.size)) : Calls Tryd.prog 4 #[v0, v1] w (fun e w' => e = .returned (.bool true) ∧ Below w.heap.size w w') := by
  have hp := law_plain x0 x1 w0 w1
  have hr : RepAs (memOf w) (fun k => k < w.heap.size) (E1.ps 4) (x0, x1, ()) [v0, v1] [] := ⟨[], [], rfl, h0, ⟨[], [], rfl, h1, ⟨rfl, rfl⟩⟩⟩
  refine (law_runs extOk mixed (f := 4) (yz := ((true, ()), ())) hp hr htab).mono fun e w' h => ?_
  obtain ⟨bel, N', rs, G1, he, hrep⟩ := h
  exact ⟨by rw [he, ret_true hrep], bel⟩
theorem met (os : Os) (args : Array Value) : laidMetH Tryd.prog Rows.fnExactStepTextRow.laid ((World.doorLaid Tryd.prog 400 os).forCall (fun _ _ => 0) ⟨#[], args, []⟩).memory :=
  laidMetH_of_parts3 (fuel := 8) (laidMet_of_run' 8 (by kernel_rfl) (by kernel_rfl)) (by kernel_rfl) (by kernel_rfl)
theorem tabs {W : World} (h : laidMetH Tryd.prog Rows.fnExactStepTextRow.laid W) : E1.tabs W (fun k => k < W.heap.size) := by
  rw [MakeChecks.laidMetH_plain _ _ _ (by kernel_rfl)] at h
  exact tabs_of tabE tabG (Lib.tabIs_of_head (t := 126) (e := 119) (n := 20) tabG (by kernel_rfl) Tryd.underlying126 Tryd.underlying119 (by kernel_rfl) (by kernel_rfl) (h.tail.tail))
theorem lifted (os : Os) (started : os.Started) (H : Type) (enc : TypeId × Value → H) :
    ReturnsInHanded {} Tryd.checked os 4 .any (fun w args => (Rows.fnExactStepTextSpec.pre enc Tryd.prog Tryd.f4 [] false w args ∧ laidMetH Tryd.prog Rows.fnExactStepTextRow.laid w) ∧ sizedMet enc Tryd.prog Tryd.f4 (OpenSpec.ofChange Rows.fnExactStepTextSpec) false w args) (Rows.fnExactStepTextSpec.post enc Tryd.prog Tryd.f4 false true false false) := by
  refine returnsInHanded_of_change_and (C := Tryd.checked) (X := fun w _ => laidMetH Tryd.prog Rows.fnExactStepTextRow.laid w) (fun _ _ _ hh h => h.of_heap hh) own started (by kernel_rfl) Tryd.func4
    (ChangeSpec.witness_shaped (enc := enc) (C := Tryd.checked) (os := os) (X := fun w _ => laidMetH Tryd.prog Rows.fnExactStepTextRow.laid w) false (World.doorLaid Tryd.prog 400 os) #[.agg #[.slice none 0 0], .agg #[.int .i64 0, .slice none 0 0, .slice none 0 0, .slice none 0 0]] 8 rfl (World.shaped_of_RefB (by kernel_rfl) (by kernel_rfl)) (by kernel_rfl) (by kernel_rfl) (by kernel_rfl) (met os _)) ?_
  intro W base args ds gs before hval0 hW hcnd hsz0 hL _
  have hval : ∀ (j : Nat) t v, Tryd.f4.params[j]? = some t → args[j]? = some v → Value.okWide Tryd.prog W .any base t v := hval0
  have hW' := hW
  obtain ⟨p, q, hA0, hV, rfl, hfz, hnd⟩ := hW
  have hA : DataW.TrodAll enc Tryd.prog W 0 (fun _ => true) true Tryd.f4.params.toList args.toList ds p := hA0
  rw [Tryd.params4] at hA hval
  obtain ⟨v0, vs0, d0, ds0, p0, q0, hargs, rfl, rfl, h0, r0⟩ := trodAll_cons hA
  obtain ⟨v1, vs1, d1, ds1, p1, q1, rfl, rfl, rfl, h1, r1⟩ := trodAll_cons r0
  obtain ⟨rfl, rfl, rfl⟩ := trodAll_nil r1
  obtain rfl : args = #[v0, v1] := by cases args; simp_all
  obtain ⟨rfl, rfl⟩ := trodVars_none hV
  obtain ⟨x0, a0, b0⟩ := open_arg dt0 (hval 0 24 v0 rfl rfl) h0
  obtain ⟨x1, a1, b1⟩ := open_arg dt1 (hval 1 39 v1 rfl rfl) h1
  refine (runs W v0 v1 x0 x1 a0 a1 b0 b1 (tabs hL)).mono fun e W' ⟨he, bel⟩ => ?_
  subst he
  have hlt := hW'.lt
  exact ⟨_, rfl, _, _, _, [], _, [], hW', trodAll_mk1 (shut_bool Tryd.underlying4 _), (trodAll_cons_mk (Below.trod laid (by kernel_rfl) (of_decide_eq_true (by kernel_rfl)) h0 bel (fun x hx => hlt x (by simp [hx]))) (trodAll_cons_mk (Below.trod laid (by kernel_rfl) (of_decide_eq_true (by kernel_rfl)) h1 bel (fun x hx => hlt x (by simp [hx]))) trodAll_mk0)), rfl, bel.frame _, fun h => by cases h⟩

theorem over : Rows.fnExactStepTextRow.holds Tryd.pinned (OpenSpec.ofChange Rows.fnExactStepTextSpec) :=
  OpenClaim.holds_of_wide 4 Tryd.f4 rfl rfl rfl rfl rfl rfl rfl ⟨rfl, rfl, rfl, rfl, rfl⟩ rfl rfl rfl rfl rfl (by kernel_rfl) Tryd.func4 (by kernel_rfl)
    (of_decide_eq_true (by kernel_rfl)) (by unfold Func.isWrapper; first | (rw [if_pos (by decide +kernel)]; kernel_rfl) | (rw [if_neg (by decide +kernel)]; exact ⟨rfl, rfl⟩))
    (fun os started H enc _ => lifted os started H enc)
theorem card : Rows.FnExactStepTextCardSaid :=
  Claim7.holds_tied_plain_at .later [] [.data, .data, .data] true (true, "09b103076787727cd6483dbbe4ac7515f8f9da76dfcf631ea6735a59fca045be") false
    over (fun _ h => by cases h) (by kernel_rfl) (fun _ h => by cases h) fnExactStepText_row_tie rfl ⟨rfl, rfl⟩ (by kernel_rfl) rfl
    (fun f fn hf hfn => by
      obtain rfl : f = 4 := Option.some.inj ((show Tryd.prog.funcNamed Rows.fnExactStepTextRow.func = some 4 by kernel_rfl).symm.trans hf) |>.symm
      obtain rfl : fn = Tryd.f4 := (Option.some.inj (Tryd.func4.symm.trans hfn)).symm
      exact ⟨by kernel_rfl, fun j t ht => by
        rw [Tryd.params4] at ht
        have hm : t ∈ [24, 39] := by simpa using Array.mem_of_getElem? ht
        have hall : ([24, 39].all fun u => !Tryd.prog.wantsStandIn u) = true := by kernel_rfl
        exact (show Tryd.prog.wantsStandIn t = false by simpa using List.all_eq_true.1 hall t hm)⟩)
    (by kernel_rfl)
end Go.Proofs.YtndnhbihcnlpaaaDoor.fnExactStepText
namespace Go.Proofs.YtndnhbihcnlpaaaDoor
/-- The row, under a short name, for the claim. -/
theorem fnExactStepText_holds : Rows.FnExactStepTextCardSaid := fnExactStepText.card
#print axioms fnExactStepText_holds
end Go.Proofs.YtndnhbihcnlpaaaDoor
