/- A text of its own: Row; no condition but those that each theorem names. -/
import Derived.Test.YtkgpnekonnopgaaGreatRows
import Derived.Test.YtkgpnekonnopgaaGreatIrEvWt
import Derived.Test.YtkgpnekonnopgaaGreatIrXAm
import Derived.Test.YtkgpnekonnopgaaGreatIrCl
import Derived.WalkKit
import Derived.ProofKit
import Derived.OpenShut
import Derived.ChangeOld
import Derived.Below
import Derived.SizedLaws
import Derived.Carry
namespace Go.Proofs.YtkgpnekonnopgaaGreat.fnExactIsRefuted
open Go.ChangeShapes Go.WideShapes Go.ChangeAt Go.RowKit Go.Proofs.YtkgpnekonnopgaaGreatIr.Ev
set_option linter.unusedVariables false
set_option maxRecDepth 100000
theorem own : ownKnob Tryz.prog.godebug = none := by kernel_rfl
theorem laid : laidOutB Tryz.prog = true := by kernel_rfl
theorem mixed : E1.P.follows .mixedOrders = true := by kernel_rfl
theorem law_plain (s : ((.agg (fs [(.sl (.int .i64))])) : Ty).den) (c : ((.sl (.sl (.agg (fs [.bool, (.sl (.int .i64)), (.sl (.int .i64))])))) : Ty).den) (d : ((.sl (.agg (fs [(.int .i64), (.sl (.int .i64)), (.sl (.int .i64)), (.sl (.agg (fs [.bool, (.sl (.int .i64)), (.sl (.int .i64))])))]))) : Ty).den) (h0 : wfT (.agg (fs [(.sl (.int .i64))])) s) (h1 : wfT (.sl (.sl (.agg (fs [.bool, (.sl (.int .i64)), (.sl (.int .i64))])))) c) (h2 : wfT (.sl (.agg (fs [(.int .i64), (.sl (.int .i64)), (.sl (.int .i64)), (.sl (.agg (fs [.bool, (.sl (.int .i64)), (.sl (.int .i64))])))]))) d) : zd2 M s c d = some ((true, ()), ()) :=
  zqV s c d (by have := h0.1.1; unfold maxLen at this; exact this) (by have := h1.1; unfold maxLen at this; exact this) (fun x hx => ⟨by have := (h1.2 x hx).1; unfold maxLen at this; exact this, fun y hy => ⟨by have := ((h1.2 x hx).2 y hy).2.1.1; unfold maxLen at this; exact this, by have := ((h1.2 x hx).2 y hy).2.2.1.1; unfold maxLen at this; exact this⟩⟩) (by have := h2.1; unfold maxLen at this; exact this) (fun x hx => ⟨by have := (h2.2 x hx).2.1.1; unfold maxLen at this; exact this, by have := (h2.2 x hx).2.2.1.1; unfold maxLen at this; exact this, by have := (h2.2 x hx).2.2.2.1.1; unfold maxLen at this; exact this, fun y hy => ⟨by have := ((h2.2 x hx).2.2.2.1.2 y hy).2.1.1; unfold maxLen at this; exact this, by have := ((h2.2 x hx).2.2.2.1.2 y hy).2.2.1.1; unfold maxLen at this; exact this⟩⟩)
theorem dt0 : dtP Tryz.prog 20 24 = some ((.agg (fs [(.sl (.int .i64))])) : Ty) := by kernel_rfl
theorem dt1 : dtP Tryz.prog 20 25 = some ((.sl (.sl (.agg (fs [.bool, (.sl (.int .i64)), (.sl (.int .i64))])))) : Ty) := by kernel_rfl
theorem dt2 : dtP Tryz.prog 20 26 = some ((.sl (.agg (fs [(.int .i64), (.sl (.int .i64)), (.sl (.int .i64)), (.sl (.agg (fs [.bool, (.sl (.int .i64)), (.sl (.int .i64))])))]))) : Ty) := by kernel_rfl
theorem runs (w : World) (v0 v1 v2 : Value) (x0 : ((.agg (fs [(.sl (.int .i64))])) : Ty).den) (x1 : ((.sl (.sl (.agg (fs [.bool, (.sl (.int .i64)), (.sl (.int .i64))])))) : Ty).den) (x2 : ((.sl (.agg (fs [(.int .i64), (.sl (.int .i64)), (.sl (.int .i64)), (.sl (.agg (fs [.bool, (.sl (.int .i64)), (.sl (.int .i64))])))]))) : Ty).den) (h0 : RepA (memOf w) (fun k => k < w.heap.size) ((.agg (fs [(.sl (.int .i64))])) : Ty) x0 v0 []) (h1 : RepA (memOf w) (fun k => k < w.heap.size) ((.sl (.sl (.agg (fs [.bool, (.sl (.int .i64)), (.sl (.int .i64))])))) : Ty) x1 v1 []) (h2 : RepA (memOf w) (fun k => k < w.heap.size) ((.sl (.agg (fs [(.int .i64), (.sl (.int .i64)), (.sl (.int .i64)), (.sl (.agg (fs [.bool, (.sl (.int .i64)), (.sl (.int .i64))])))]))) : Ty) x2 v2 []) (w0 : wfT ((.agg (fs [(.sl (.int .i64))])) : Ty) x0) (w1 : wfT ((.sl (.sl (.agg (fs [.bool, (.sl (.int .i64)), (.sl (.int .i64))])))) : Ty) x1) (w2 : wfT ((.sl (.agg (fs [(.int .i64), (.sl (.int .i64)), (.sl (.int .i64)), (.sl (.agg (fs [.bool, (.sl (.int .i64)), (.sl (.int .i64))])))]))) : Ty) x2) : Calls Tryz.prog 5 #[v0, v1, v2] w (fun e w' => e = .returned (.bool true) ∧ Below w.heap.size w w') := by
  have hp := law_plain x0 x1 x2 w0 w1 w2
  have hr : RepAs (memOf w) (fun k => k < w.heap.size) (E1.ps 5) (x0, x1, x2, ()) [v0, v1, v2] [] := ⟨[], [], rfl, h0, ⟨[], [], rfl, h1, ⟨[], [], rfl, h2, ⟨rfl, rfl⟩⟩⟩⟩
  refine (zAw extOk mixed (f := 5) (yz := ((true, ()), ())) hp hr (Env.tabs_nil rfl w _)).mono fun e w' h => ?_
  obtain ⟨bel, N', rs, G1, he, hrep⟩ := h
  exact ⟨by rw [he, zzZ hrep], bel⟩
theorem lifted (os : Os) (started : os.Started) (H : Type) (enc : TypeId × Value → H) :
    ReturnsInHanded {} Tryz.checked os 5 .any (Rows.fnExactIsRefutedSpec.pre6 enc Tryz.prog Tryz.f5 Rows.fnExactIsRefutedRow.domain false) (Rows.fnExactIsRefutedSpec.post enc Tryz.prog Tryz.f5 false true false false) := by
  refine returnsInHanded_of_change_sized (C := Tryz.checked) own started (by kernel_rfl) Tryz.func5
    (ChangeSpec.witness6 (enc := enc) (C := Tryz.checked) false ⟨#[], #[.agg #[.slice none 0 0], .slice none 0 0, .slice none 0 0], []⟩ 8 (by kernel_rfl) (by kernel_rfl) (by kernel_rfl) (by kernel_rfl)) ?_
  intro W base args ds gs before hval0 hW hcnd hsz0 _
  have hval : ∀ (j : Nat) t v, Tryz.f5.params[j]? = some t → args[j]? = some v → Value.okWide Tryz.prog W .any base t v := hval0
  have hW' := hW
  obtain ⟨p, q, hA0, hV, rfl, hfz, hnd⟩ := hW
  have hA : DataW.TrodAll enc Tryz.prog W 0 (fun _ => true) true Tryz.f5.params.toList args.toList ds p := hA0
  rw [Tryz.params5] at hA hval
  obtain ⟨v0, vs0, d0, ds0, p0, q0, hargs, rfl, rfl, h0, r0⟩ := trodAll_cons hA
  obtain ⟨v1, vs1, d1, ds1, p1, q1, rfl, rfl, rfl, h1, r1⟩ := trodAll_cons r0
  obtain ⟨v2, vs2, d2, ds2, p2, q2, rfl, rfl, rfl, h2, r2⟩ := trodAll_cons r1
  obtain ⟨rfl, rfl, rfl⟩ := trodAll_nil r2
  obtain rfl : args = #[v0, v1, v2] := by cases args; simp_all
  obtain ⟨rfl, rfl⟩ := trodVars_none hV
  obtain ⟨x0, a0, b0⟩ := zsG dt0 (hval 0 24 v0 rfl rfl) h0
  obtain ⟨x1, a1, b1⟩ := zsG dt1 (hval 1 25 v1 rfl rfl) h1
  obtain ⟨x2, a2, b2⟩ := zsG dt2 (hval 2 26 v2 rfl rfl) h2
  refine (runs W v0 v1 v2 x0 x1 x2 a0 a1 a2 b0 b1 b2).mono fun e W' ⟨he, bel⟩ => ?_
  subst he
  have hlt := hW'.lt
  exact ⟨_, rfl, _, _, _, [], _, [], hW', trodAll_mk1 (shut_bool Tryz.underlying4 _), (trodAll_cons_mk (Below.trod laid (by kernel_rfl) (of_decide_eq_true (by kernel_rfl)) h0 bel (fun x hx => hlt x (by simp [hx]))) (trodAll_cons_mk (Below.trod laid (by kernel_rfl) (of_decide_eq_true (by kernel_rfl)) h1 bel (fun x hx => hlt x (by simp [hx]))) (trodAll_cons_mk (Below.trod laid (by kernel_rfl) (of_decide_eq_true (by kernel_rfl)) h2 bel (fun x hx => hlt x (by simp [hx]))) trodAll_mk0))), rfl, bel.frame _, fun h => by cases h⟩
theorem over : Rows.fnExactIsRefutedRow.holds Tryz.pinned (OpenSpec.ofChange Rows.fnExactIsRefutedSpec) :=
  OpenClaim.holds_of_wide 5 Tryz.f5 rfl rfl rfl rfl rfl rfl rfl ⟨rfl, rfl, rfl, rfl, rfl⟩ rfl rfl rfl rfl rfl (by kernel_rfl) Tryz.func5 (by kernel_rfl)
    (of_decide_eq_true (by kernel_rfl)) (by unfold Func.isWrapper; first | (rw [if_pos (by decide +kernel)]; kernel_rfl) | (rw [if_neg (by decide +kernel)]; exact ⟨rfl, rfl⟩))
    (fun os started H enc _ => lifted os started H enc)
end Go.Proofs.YtkgpnekonnopgaaGreat.fnExactIsRefuted
namespace Go.Proofs.YtkgpnekonnopgaaGreat
theorem fnExactIsRefuted_holds : Rows.FnExactIsRefutedSaid := fnExactIsRefuted.over
#print axioms fnExactIsRefuted_holds
end Go.Proofs.YtkgpnekonnopgaaGreat
