/- Plain laws: places of a term's operands. No condition but sizes. -/
import Derived.Test.YtffdfjilpleljaaCuPB
namespace Go.Proofs.YtffdfjilpleljaaCu.Ev
open Go
set_option autoImplicit false
set_option linter.unusedVariables false
set_option linter.unusedSimpArgs false

theorem sign_eta (x : TSign) : (x.1, ()) = x := rfl
theorem bytesStr_app (x y : List Int) : bytesStr (x ++ y) = bytesStr x ++ bytesStr y := by simp [bytesStr]
theorem bytesStr_len (x : List Int) : (bytesStr x).length = x.length := by simp [bytesStr]

def posOf : Nat → List (List Int) → List Int
  | _, [] => []
  | p, u :: us => (p : Int) :: posOf (p + u.length) us
theorem posOf_len : ∀ (us : List (List Int)) (p : Nat), (posOf p us).length = us.length
  | [], _ => rfl
  | _ :: us, p => by simp [posOf, posOf_len us]

theorem drop_split {T u x : List Int} {i : Nat} (h : T.drop i = u ++ x) : T.drop (i + u.length) = x := by
  rw [← List.drop_drop, h, List.drop_left]
theorem drop_len {T u : List Int} {i : Nat} (h : T.drop i = u) : u.length = T.length - i := by rw [← h, List.length_drop]

theorem p_l1Args_loop {a : List Int} (hg : gS a = true) (T : List Int) (hT : T.length ≤ 1000) : ∀ (us : List (List Int)) (p : Nat) (x out : List Int), (∀ u ∈ us, Tm a u) → us.length ≤ 1000 → T.drop p = us.flatten ++ x → out.length + us.length ≤ 1000 →
    l_spec_l1Args_250 M T (a, ()) out p us.length = some (.inl (out ++ posOf p us, ())) := by
  intro us
  induction us with
  | nil =>
    intro p x out _ _ _ _
    apply el_spec_l1Args_250
    simp [ql_spec_l1Args_250, posOf]
  | cons u us ih =>
    intro p x out hu hl hd ho
    simp only [List.length_cons] at hl ho
    simp only [List.flatten_cons, List.append_assoc] at hd
    have h1 := hu u (by simp)
    apply el_spec_l1Args_250
    simp only [ql_spec_l1Args_250, List.length_cons]
    have hp : p ≤ T.length := by
      have := drop_len hd
      have h2 := h1.pos
      simp at this
      omega
    rw [if_pos (by simp), if_pos (by simp [-List.length_flatten]; omega), p_l1End (a, ()) hg T p hp (by omega), hd, h1.rest hg]
    have hx := drop_len hd
    have hlen : (T.length : Int) - (us.flatten ++ x).length = ((p + u.length : Nat) : Int) := by
      simp only [List.length_append] at hx ⊢
      omega
    simp only [Option.bind_some, hlen]
    rw [w64 (by omega) (by omega), show ((us.length + 1 : Nat) : Int) - 1 = (us.length : Int) by omega, ih (p + u.length) x (out ++ [(p : Int)]) (fun v hv => hu v (by simp [hv])) (by omega) (drop_split hd) (by simp [-List.length_flatten]; omega)]
    simp [posOf]

end Go.Proofs.YtffdfjilpleljaaCu.Ev
