/- Plain laws: the tree of a formula and its nodes in a row stand for one another. No condition. -/
import Derived.Test.YtofkhmedmeihiaaPnPG
namespace Go.Proofs.YtofkhmedmeihiaaPn.Ev
open Go
set_option autoImplicit false
set_option linter.unusedVariables false
set_option linter.unusedSimpArgs false

abbrev mkT (x : TForm) (ts : List Tree) : Tree := Tree.mk x.1 x.2.1 x.2.2.1 x.2.2.2.1 ts
/-- A part of a row of nodes, and its tree. -/
inductive FT (a : List Int) : List TForm → Tree → Prop
  | leaf {x : TForm} (h : ndOK a x = true) (h0 : opn x.1 = 0) : FT a [x] (mkT x [])
  | un {x : TForm} {g : List TForm} {t : Tree} (h : ndOK a x = true) (h1 : opn x.1 = 1) (hg : FT a g t) : FT a (g ++ [x]) (mkT x [t])
  | bin {x : TForm} {g k : List TForm} {t u : Tree} (h : ndOK a x = true) (h2 : opn x.1 = 2) (hg : FT a g t) (hk : FT a k u) : FT a (g ++ k ++ [x]) (mkT x [t, u])

theorem FT.pos {a : List Int} {g : List TForm} {t : Tree} (h : FT a g t) : 0 < g.length := by cases h <;> simp <;> omega
/-- Trees side by side. -/
def Rs (a : List Int) : List (List TForm) → List Tree → Prop
  | [], [] => True
  | g :: gs, t :: ts => FT a g t ∧ Rs a gs ts
  | _, _ => False
theorem Rs.app {a : List Int} : ∀ {gs : List (List TForm)} {ts : List Tree} {gs' : List (List TForm)} {ts' : List Tree}, Rs a gs ts → Rs a gs' ts' → Rs a (gs ++ gs') (ts ++ ts')
  | [], [], _, _, _, h => h
  | _ :: _, _ :: _, _, _, ⟨h1, h2⟩, h => ⟨h1, h2.app h⟩
  | [], _ :: _, _, _, h, _ => h.elim
  | _ :: _, [], _, _, h, _ => h.elim
theorem Rs.len {a : List Int} : ∀ {gs : List (List TForm)} {ts : List Tree}, Rs a gs ts → gs.length = ts.length
  | [], [], _ => rfl
  | _ :: _, _ :: _, ⟨_, h⟩ => by simp [h.len]
  | [], _ :: _, h => h.elim
  | _ :: _, [], h => h.elim
theorem Rs.cut {a : List Int} : ∀ (n : Nat) {gs : List (List TForm)} {ts : List Tree}, Rs a gs ts → Rs a (gs.take n) (ts.take n) ∧ Rs a (gs.drop n) (ts.drop n)
  | 0, _, _, h => ⟨trivial, h⟩
  | n + 1, [], [], _ => ⟨trivial, trivial⟩
  | n + 1, _ :: _, _ :: _, ⟨h1, h2⟩ => ⟨⟨h1, (h2.cut n).1⟩, (h2.cut n).2⟩
  | _ + 1, [], _ :: _, h => h.elim
  | _ + 1, _ :: _, [], h => h.elim

theorem gT_Rs {a : List Int} : ∀ (f : List TForm) (st st' : List Tree) (gs : List (List TForm)), Rs a gs st → gT a st f = some st' → ∃ gs', Rs a gs' st' ∧ gs'.flatten = gs.flatten ++ f := by
  intro f
  induction f with
  | nil =>
    intro st st' gs hr h
    obtain rfl := Option.some.inj h
    exact ⟨gs, hr, by simp⟩
  | cons x r ih =>
    intro st st' gs hr h
    simp only [gT] at h
    split at h
    · rename_i hc
      obtain ⟨hn, hle⟩ := hc
      have ho := ndOK_opn hn
      obtain ⟨c1, c2⟩ := hr.cut (st.length - (opn x.1).toNat)
      have hl := hr.len
      have hd : ((gs.drop (st.length - (opn x.1).toNat))).length = (opn x.1).toNat := by rw [List.length_drop]; omega
      have hd2 : ((st.drop (st.length - (opn x.1).toNat))).length = (opn x.1).toNat := by rw [List.length_drop]; omega
      have key : FT a ((gs.drop (st.length - (opn x.1).toNat)).flatten ++ [x]) (mkT x (st.drop (st.length - (opn x.1).toNat))) := by
        have h012 : opn x.1 = 0 ∨ opn x.1 = 1 ∨ opn x.1 = 2 := by omega
        rcases h012 with h0 | h0 | h0
        · rw [h0] at hd hd2 c2
          rw [h0]
          generalize gs.drop (st.length - (0 : Int).toNat) = G at *
          generalize st.drop (st.length - (0 : Int).toNat) = D at *
          match G, D, hd, hd2 with
          | [], [], _, _ => exact .leaf hn h0
        · rw [h0] at hd hd2 c2
          rw [h0]
          generalize gs.drop (st.length - (1 : Int).toNat) = G at *
          generalize st.drop (st.length - (1 : Int).toNat) = D at *
          match G, D, hd, hd2, c2 with
          | [g], [t], _, _, c2 => simpa using FT.un hn h0 c2.1
        · rw [h0] at hd hd2 c2
          rw [h0]
          generalize gs.drop (st.length - (2 : Int).toNat) = G at *
          generalize st.drop (st.length - (2 : Int).toNat) = D at *
          match G, D, hd, hd2, c2 with
          | [g, k], [t, u], _, _, c2 => simpa using FT.bin hn h0 c2.1 c2.2.1
      obtain ⟨gs', q1, q2⟩ := ih _ st' (gs.take (st.length - (opn x.1).toNat) ++ [(gs.drop (st.length - (opn x.1).toNat)).flatten ++ [x]]) (c1.app (show Rs a [_] [_] from ⟨key, trivial⟩)) h
      refine ⟨gs', q1, ?_⟩
      rw [q2]
      simp only [List.flatten_append, List.flatten_cons, List.flatten_nil, List.append_nil, List.append_assoc, List.singleton_append]
      rw [← List.append_assoc, ← List.flatten_append, List.take_append_drop]
    · cases h
theorem gT_FT {a : List Int} {f : List TForm} {t : Tree} (h : gT a [] f = some [t]) : FT a f t := by
  obtain ⟨gs, h1, h2⟩ := gT_Rs f [] [t] [] trivial h
  match gs, h1 with
  | [g], h1 =>
    simp at h2
    exact h2 ▸ h1.1

theorem idx_mid {α : Type} (pre post : List α) (x : α) : idx (pre ++ x :: post) (pre.length : Int) = some x := by
  rw [idx_nat]; simp

end Go.Proofs.YtofkhmedmeihiaaPn.Ev
