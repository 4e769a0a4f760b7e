/- The limit of the evaluator's levels, and: what a function's equation answers at the limit, the limit answers. -/
import Derived.Test.YtofkhmedmeihiaaPnEvZ
namespace Go.Proofs.YtofkhmedmeihiaaPn.Ev
open Go
noncomputable section
variable {E : Env} {R S α β : Type}

theorem Gets.uniq {f : Nat} {x : (E.ps f).den} {y z : E.Ret f} (h : Gets E f x y) (k : Gets E f x z) : y = z := by
  obtain ⟨N, h⟩ := h
  obtain ⟨M, k⟩ := k
  have a := h (max N M) (by omega)
  have b := k (max N M) (by omega)
  rw [a] at b
  exact Option.some.inj b
theorem GetsL.uniq {f : Nat} {h : LoopH} {c : Code} {x : h.hτ.den} {y z : h.oτ.den ⊕ E.Ret f} (p : GetsL E f h c x y) (k : GetsL E f h c x z) : y = z := by
  obtain ⟨N, p⟩ := p
  obtain ⟨M, k⟩ := k
  have a := p (max N M) (by omega)
  have b := k (max N M) (by omega)
  rw [a] at b
  exact Option.some.inj b

open Classical in
/-- What the levels say from some one on. -/
def Lm (E : Env) : Oracle E where
  C f x := if h : ∃ y, Gets E f x y then some h.choose else none
  L f h c x := if p : ∃ y, GetsL E f h c x y then some p.choose else none

theorem Lm_C {f : Nat} {x : (E.ps f).den} {y : E.Ret f} : (Lm E).C f x = some y ↔ Gets E f x y := by
  constructor
  · intro h
    simp only [Lm] at h
    split at h
    · rename_i p
      obtain rfl := Option.some.inj h
      exact p.choose_spec
    · cases h
  · intro h
    have p : ∃ y, Gets E f x y := ⟨y, h⟩
    simp only [Lm, dif_pos p]
    exact congrArg some (p.choose_spec.uniq h)
theorem Lm_L {f : Nat} {h : LoopH} {c : Code} {x : h.hτ.den} {y : h.oτ.den ⊕ E.Ret f} : (Lm E).L f h c x = some y ↔ GetsL E f h c x y := by
  constructor
  · intro k
    simp only [Lm] at k
    split at k
    · rename_i p
      obtain rfl := Option.some.inj k
      exact p.choose_spec
    · cases k
  · intro k
    have p : ∃ y, GetsL E f h c x y := ⟨y, k⟩
    simp only [Lm, dif_pos p]
    exact congrArg some (p.choose_spec.uniq k)

/-- What it answers at the limit, it answers from some level on. -/
def Ct (E : Env) (A : Oracle E → Option R) : Prop := ∀ r, A (Lm E) = some r → ∃ N, ∀ n, N ≤ n → A (On E n) = some r

theorem Ct.const (a : Option R) : Ct E (fun _ => a) := fun _ h => ⟨0, fun _ _ => h⟩
theorem Ct.ite {p : Prop} [Decidable p] {A B : Oracle E → Option R} (a : Ct E A) (b : Ct E B) : Ct E (fun O => if p then A O else B O) := by
  intro r h
  by_cases hp : p
  · simp only [if_pos hp] at h ⊢; exact a r h
  · simp only [if_neg hp] at h ⊢; exact b r h
theorem Ct.bind {A : Oracle E → Option α} {B : α → Oracle E → Option R} (a : Ct E A) (b : ∀ x, Ct E (B x)) : Ct E (fun O => (A O).bind fun x => B x O) := by
  intro r h
  obtain ⟨x, hx, hr⟩ := Option.bind_eq_some_iff.1 h
  obtain ⟨N, hN⟩ := a x hx
  obtain ⟨M, hM⟩ := b x r hr
  exact ⟨max N M, fun n hn => by simp only [hN n (by omega), Option.bind_some]; exact hM n (by omega)⟩
theorem Ct.bindc {a : Option α} {B : α → Oracle E → Option R} (b : ∀ x, Ct E (B x)) : Ct E (fun O => a.bind fun x => B x O) := Ct.bind (Ct.const a) b
theorem Ct.bindS {A : Oracle E → Option (α ⊕ β)} {B : α → Oracle E → Option R} {D : β → Oracle E → Option R} (a : Ct E A) (b : ∀ x, Ct E (B x)) (d : ∀ x, Ct E (D x)) : Ct E (fun O => (A O).bind (Sum.elim (fun x => B x O) (fun x => D x O))) := by
  intro r h
  obtain ⟨x, hx, hr⟩ := Option.bind_eq_some_iff.1 h
  obtain ⟨N, hN⟩ := a x hx
  have hb : ∃ M, ∀ n, M ≤ n → Sum.elim (fun x => B x (On E n)) (fun x => D x (On E n)) x = some r := by
    cases x with
    | inl x => exact b x r hr
    | inr x => exact d x r hr
  obtain ⟨M, hM⟩ := hb
  exact ⟨max N M, fun n hn => by simp only [hN n (by omega), Option.bind_some]; exact hM n (by omega)⟩
theorem Ct.map {A : Oracle E → Option α} {g : α → R} (a : Ct E A) : Ct E (fun O => (A O).map g) := by
  intro r h
  obtain ⟨x, hx, hr⟩ := Option.map_eq_some_iff.1 h
  obtain ⟨N, hN⟩ := a x hx
  exact ⟨N, fun n hn => by simp only [hN n hn, Option.map_some, hr]⟩
/-- A tree's node, or none. -/
def treeK (t : Tree) (K : Int → Int → List Int → List Int → List Tree → Option R) : Option R := match t with
  | .nil => none
  | .mk op v l r kids => K op v l r kids
theorem Ct.tree {t : Tree} {B : Int → Int → List Int → List Int → List Tree → Oracle E → Option R} (h : ∀ op v l r kids, Ct E (B op v l r kids)) : Ct E (fun O => treeK t (fun op v l r kids => B op v l r kids O)) := by
  cases t with
  | nil => exact Ct.const none
  | mk op v l r kids => exact h op v l r kids
theorem Ct.C (f : Nat) (x : (E.ps f).den) : Ct E (fun O => O.C f x) := fun _ h => Lm_C.1 h
theorem Ct.L (f : Nat) (h : LoopH) (c : Code) (x : h.hτ.den) : Ct E (fun O => O.L f h c x) := fun _ k => Lm_L.1 k

theorem Ct.fixC {f : Nat} {x : (E.ps f).den} {A : Oracle E → Option (E.Ret f)} (k : Ct E A) (h : ∀ O, (Φ E O).C f x = A O) {r : E.Ret f} (hr : A (Lm E) = some r) : (Lm E).C f x = some r :=
  Lm_C.2 (Gets.step ((k r hr).imp fun _ hN n hn => (h _).trans (hN n hn)))
theorem Ct.fixL {f : Nat} {h : LoopH} {c : Code} {x : h.hτ.den} {A : Oracle E → Option (h.oτ.den ⊕ E.Ret f)} (k : Ct E A) (e : ∀ O, (Φ E O).L f h c x = A O) {r : h.oτ.den ⊕ E.Ret f} (hr : A (Lm E) = some r) : (Lm E).L f h c x = some r :=
  Lm_L.2 (GetsL.step ((k r hr).imp fun _ hN n hn => (e _).trans (hN n hn)))

end
end Go.Proofs.YtofkhmedmeihiaaPn.Ev
