/- Plain laws: that something is answered, and what holds of it. No condition. -/
import Derived.Test.YtffdfjilpleljaaCuPW
namespace Go.Proofs.YtffdfjilpleljaaCu.Ev
open Go
set_option autoImplicit false
set_option linter.unusedVariables false
set_option linter.unusedSimpArgs false

/-- Something is answered, and this holds of it. -/
def Okk {α : Type} (P : α → Prop) (o : Option α) : Prop := ∃ x, o = some x ∧ P x
theorem Okk.pure {α : Type} {P : α → Prop} {x : α} (h : P x) : Okk P (some x) := ⟨x, rfl, h⟩
theorem Okk.bind {α β : Type} {P : α → Prop} {Q : β → Prop} {o : Option α} {f : α → Option β} (h : Okk P o) (k : ∀ x, P x → Okk Q (f x)) : Okk Q (o.bind f) := by
  obtain ⟨x, rfl, hx⟩ := h
  exact k x hx
theorem Okk.ite {α : Type} {P : α → Prop} {c : Prop} [Decidable c] {a b : Option α} (h : c → Okk P a) (k : ¬ c → Okk P b) : Okk P (if c then a else b) := by
  by_cases hc : c
  · rw [if_pos hc]; exact h hc
  · rw [if_neg hc]; exact k hc
theorem Okk.iteT {α : Type} {P : α → Prop} {c : Prop} [Decidable c] {a b : Option α} (hc : c) (h : Okk P a) : Okk P (if c then a else b) := by rw [if_pos hc]; exact h
theorem Okk.iteF {α : Type} {P : α → Prop} {c : Prop} [Decidable c] {a b : Option α} (hc : ¬ c) (h : Okk P b) : Okk P (if c then a else b) := by rw [if_neg hc]; exact h
theorem Okk.mono {α : Type} {P Q : α → Prop} {o : Option α} (h : Okk P o) (k : ∀ x, P x → Q x) : Okk Q o := by
  obtain ⟨x, hx, p⟩ := h
  exact ⟨x, hx, k x p⟩
theorem Okk.lift {α : Type} {P : α → Prop} {o c : Option α} (h : Okk P o) (k : ∀ {r}, o = some r → c = some r) : Okk P c := by
  obtain ⟨x, hx, p⟩ := h
  exact ⟨x, k hx, p⟩
theorem Okk.idx {α : Type} {l : List α} {i : Int} (h : 0 ≤ i) (k : i < l.length) : Okk (fun x => x ∈ l) (idx l i) := by
  obtain ⟨m, rfl⟩ : ∃ m : Nat, i = (m : Int) := ⟨i.toNat, by omega⟩
  have hm : m < l.length := by omega
  exact ⟨l[m], idx_lt hm, List.getElem_mem hm⟩
theorem Okk.get {α : Type} {l : List α} {i : Nat} (k : i < l.length) : Okk (fun x => x ∈ l) (l[i]?) := ⟨l[i], by simp [k], List.getElem_mem k⟩

theorem Cu.mono {code : List Int} {i j : Int} {c : TCur} (h : Cu code i c) (k : i ≤ j) : Cu code j c := ⟨h.1, h.2.1, by have := h.2.2; omega⟩
section
variable {code : List Int} (hb : isBytes code) {j : Int} {c : TCur} (hc : Cu code j c)
include hb hc
theorem d_next (hj : j ≤ 1000000000) : Okk (fun r => 0 ≤ r.1.1 ∧ r.1.1 ≤ 255 ∧ Cu code (j + 1) r.2.1) (c_spec_l1Cur_next M c) := by
  obtain ⟨x, c', h, h1, h2, h3⟩ := p_next hb hj hc
  exact ⟨_, h, h1, h2, h3⟩
theorem d_pick (n : Int) (hj : j ≤ 100000000) (hn : n ≤ 1000000000) : Okk (fun r => 0 ≤ r.1.1 ∧ (r.1.1 < n ∨ r.1.1 = 0) ∧ Cu code (j + 2) r.2.1) (c_spec_l1Cur_pick M c n) := by
  obtain ⟨x, c', h, h1, h2, h3⟩ := p_pick hb hj hc n hn
  exact ⟨_, h, h1, h2, h3⟩
theorem d_one (n : Int) (hj : j ≤ 100000000) (hn : n ≤ 1000000000) : Okk (fun r => Cu code (j + 2) r.2.1) (c_spec_l1Cur_one M c n) := by
  obtain ⟨x, c', h, h1⟩ := p_one hb hj hc n hn
  exact ⟨_, h, h1⟩
theorem d_among (l : List Int) (hj : j ≤ 100000000) (hl : l.length ≤ 1000000) (hl0 : 0 < l.length) : Okk (fun r => r.1.1 ∈ l ∧ Cu code (j + 2) r.2.1) (c_spec_l1Cur_among M c l) := by
  obtain ⟨x, c', h, h1, h2⟩ := p_among hb hj hc l hl hl0
  exact ⟨_, h, h1, h2⟩
theorem d_spoilt (t w : List UInt8) (hj : j ≤ 100000) (hw0 : 0 < w.length) (hw1 : w.length ≤ 1000) (ht : t.length ≤ 100000) : Okk (fun r => r.1.1.length ≤ t.length + 2 ∧ Cu code (j + 20) r.2.1) (c_spec_l1Cur_spoilt M c t w) := by
  obtain ⟨x, c', h, h1, h2⟩ := p_spoilt hb hj hc t w hw0 hw1 ht
  exact ⟨_, h, h1, h2⟩
end

end Go.Proofs.YtffdfjilpleljaaCu.Ev
