/- A text of its own: EvWt; no condition but those that each theorem names. -/
import Derived.Test.YtenknihdnkiplaaGreatSsEvDe
namespace Go.Proofs.YtenknihdnkiplaaGreatSs.Ev
open Go
abbrev tyI : Ty := .int .i64
abbrev tyLs : Ty := .agg (.cons .bool (.cons (.sl tyI) (.cons (.sl tyI) .nil)))
abbrev tyLo : Ty := .agg (.cons .bool (.cons (.own tyI) (.cons (.own tyI) .nil)))
abbrev tyLq : Ty := .agg (.cons .bool (.cons .opq (.cons .opq .nil)))
abbrev CL := Bool × List Int × List Int × Unit
def wtZ {α : Type} : List CL → List α → List (Bool × α × α × Unit)
 | x :: c, a :: b :: r => (x.1, a, b, ()) :: wtZ c r
 | _, _ => []
theorem zpv {α : Type} : ∀ (c : List CL) (xs : List α), 2 * c.length ≤ xs.length → (wtZ c xs).length = c.length
 | [], _, _ => by simp [wtZ]
 | x :: c, [], h => by simp at h
 | x :: c, [a], h => by simp at h; omega
 | x :: c, a :: b :: r, h => by
  simp only [wtZ, List.length_cons]
  rw [zpv c r (by simp at h; omega)]
theorem zrW {α : Type} : ∀ (c : List CL) (xs : List α) (j : Nat) (hj : j < c.length) (h : 2 * c.length ≤ xs.length) (h1 : j < (wtZ c xs).length) (h2 : 2 * j < xs.length) (h3 : 2 * j + 1 < xs.length), (wtZ c xs)[j] = ((c[j]).1, xs[2 * j], xs[2 * j + 1], ())
 | [], _, j, hj, _, _, _, _ => by simp at hj
 | x :: c, [], _, _, h, _, _, _ => by simp at h
 | x :: c, [a], _, _, h, _, _, _ => by simp at h; omega
 | x :: c, a :: b :: r, 0, _, _, _, _, _ => rfl
 | x :: c, a :: b :: r, j + 1, hj, h, h1, h2, h3 => by
  simp only [List.length_cons] at hj h h2 h3
  have ih := zrW c r j (by omega) (by omega) (by simpa [wtZ] using h1) (by omega) (by omega)
  simp only [wtZ, List.getElem_cons_succ, ih]
  rfl
def wtF : Nat → List (List Nat) → List (List Nat)
 | n + 1, a :: b :: r => (a ++ b) :: wtF n r
 | _, _ => []
theorem zvC : ∀ (n : Nat) (Fs : List (List Nat)), 2 * n ≤ Fs.length → (wtF n Fs).length = n
 | 0, _, _ => by simp [wtF]
 | n + 1, [], h => by simp at h
 | n + 1, [a], h => by simp at h; omega
 | n + 1, a :: b :: r, h => by simp only [wtF, List.length_cons]; rw [zvC n r (by simp at h; omega)]
theorem zvo : ∀ (n : Nat) (Fs : List (List Nat)) (j : Nat) (_hj : j < n) (_h : 2 * n ≤ Fs.length) (h1 : j < (wtF n Fs).length) (h2 : 2 * j < Fs.length) (h3 : 2 * j + 1 < Fs.length), (wtF n Fs)[j] = Fs[2 * j] ++ Fs[2 * j + 1]
 | 0, _, j, hj, _, _, _, _ => by omega
 | n + 1, [], _, _, h, _, _, _ => by simp at h
 | n + 1, [a], _, _, h, _, _, _ => by simp at h; omega
 | n + 1, a :: b :: r, 0, _, _, _, _, _ => rfl
 | n + 1, a :: b :: r, j + 1, hj, h, h1, h2, h3 => by
  simp only [List.length_cons] at h h2 h3
  have ih := zvo n r j (by omega) (by omega) (by simpa [wtF] using h1) (by omega) (by omega)
  simp only [wtF, List.getElem_cons_succ, ih]
  rfl
theorem zrU : ∀ (n : Nat) (Fs : List (List Nat)), (wtF n Fs).flatten.Sublist Fs.flatten
 | 0, _ => by simp [wtF]
 | n + 1, [] => by simp [wtF]
 | n + 1, [a] => by simp [wtF]
 | n + 1, a :: b :: r => by
  simp only [wtF, List.flatten_cons, List.append_assoc]
  exact (List.Sublist.refl a).append ((List.Sublist.refl b).append (zrU n r))
theorem zyS {m : Mem} {N : Nat → Prop} {p : Bool} {v1 v2 : Value} {cs : List Value} {F : List Nat} (h : RepT m N tyLq (p, v1, v2, ()) cs F) {m' : Mem} {N' : Nat → Prop} {x1 x2 : List Int} {F1 F2 : List Nat} (h1 : RepT m' N' (.own tyI) x1 [v1] F1) (h2 : RepT m' N' (.own tyI) x2 [v2] F2) :
  F = [] ∧ RepT m' N' tyLo (p, x1, x2, ()) cs (F1 ++ F2) := by
 obtain ⟨c1, c2, G1, G2, e1, e2, ⟨hc, hG⟩, ⟨c3, c4, G3, G4, e3, e4, ⟨g3, k3, _⟩, ⟨c5, c6, G5, G6, e5, e6, ⟨g5, k5, _⟩, ⟨hc6, g6⟩⟩⟩⟩ := h
 subst e2; subst e4; subst e6; subst hG; subst g3; subst g5; subst g6
 subst e1; subst e3; subst e5; subst hc; subst hc6
 refine ⟨rfl, [.bool p], [v1, v2], [], F1 ++ F2, ?_, rfl, ⟨rfl, rfl⟩, [v1], [v2], F1, F2, rfl, rfl, h1, [v2], [], F2, [], rfl, by simp, h2, rfl, rfl⟩
 have k3' : c3 = [v1] := k3
 have k5' : c5 = [v2] := k5
 rw [k3', k5']; rfl
def QCalls (P : Program) (f : Nat) : Prop :=
 ∀ (c : List CL) (vs : List Value) (w : World) (N : Nat → Prop) (us : List Value), c.length ≤ 1000000 → 2 * c.length ≤ vs.length → RepAs (memOf w) N (.cons (.sl tyLs) (.cons (.sl .opq) .nil)) (c, vs, ()) us [] → (∀ k, N k → k < w.heap.size) →
  Calls P f us.toArray w (Post fun v w' => ∃ N' rs G1, Moves w w' [] ∧ (∀ k, N k → N' k) ∧ (∀ k, N' k → N k ∨ w.heap.size ≤ k) ∧ (∀ k, N' k → k < w'.heap.size) ∧ v = retOf rs ∧
   RepAs (memOf w') N' (.cons (.own tyLq) .nil) (wtZ c vs, ()) rs G1 ∧ G1.Nodup ∧ ∀ k ∈ G1, k < w'.heap.size ∧ ¬ N' k ∧ w.heap.size ≤ k)
theorem zx6 {P : Program} {f : Nat} (hq : QCalls P f) (c : List CL) (xs : List (List Int)) (hc : c.length ≤ 1000000) (hl : 2 * c.length ≤ xs.length) (w : World) (N : Nat → Prop) (us : List Value) (G : List Nat)
  (hr : RepAs (memOf w) N (.cons (.sl tyLs) (.cons (.own (.own tyI)) .nil)) (c, xs, ()) us G) (hnd : G.Nodup) (hG : ∀ k ∈ G, k < w.heap.size ∧ ¬ N k) (hN : ∀ k, N k → k < w.heap.size) :
  Calls P f us.toArray w (Post fun v w' => ∃ N' rs G1, Moves w w' G ∧ (∀ k, N k → N' k) ∧ (∀ k, N' k → N k ∨ k ∈ G ∨ w.heap.size ≤ k) ∧ (∀ k, N' k → k < w'.heap.size) ∧ v = retOf rs ∧
   RepAs (memOf w') N' (.cons (.own tyLo) .nil) (wtZ c xs, ()) rs G1 ∧ G1.Nodup ∧ ∀ k ∈ G1, k < w'.heap.size ∧ ¬ N' k ∧ (k ∈ G ∨ w.heap.size ≤ k)) := by
 match us, hr with
 | [u1, u2], ⟨F1, F2, e1, h1, F3, F4, e2, h2, h3, h4⟩ =>
  subst e1; subst e2; subst h4
  have h1' : RepT (memOf w) N (.sl tyLs) c [u1] F1 := by simpa [RepA, Ty.isAgg] using h1
  have h2' : RepT (memOf w) N (.own (.own tyI)) xs [u2] F3 := by simpa [RepA, Ty.isAgg] using h2
  obtain rfl : F1 = [] := RepT.imm (τ := .sl tyLs) rfl h1'
  simp only [List.nil_append, List.append_nil] at hnd hG ⊢
  obtain ⟨N0, vs, Fs, hvl, hfl, hrow, hsl, hN0, hN0u, hN0F, hFs⟩ : ∃ (N0 : Nat → Prop) (vs : List Value) (Fs : List (List Nat)), vs.length = xs.length ∧ Fs.length = xs.length ∧
    (∀ (i : Nat) (hi : i < xs.length) (h' : i < vs.length) (h'' : i < Fs.length), RepT (memOf w) N (.own tyI) xs[i] [vs[i]] Fs[i]) ∧ RepT (memOf w) N0 (.sl .opq) vs [u2] [] ∧ (∀ k, N k → N0 k) ∧ (∀ k, N0 k → N k ∨ k ∈ F3) ∧ (∀ k ∈ Fs.flatten, ¬ N0 k) ∧ Fs.flatten.Sublist F3 := by
   rcases h2' with ⟨a, k1, k2, k3⟩ | ⟨g, cap, cc, T, es, Fs, k1, k2, k3, k4, k5, k6, k7, k8, k9, k10⟩
   ·refine ⟨N, [], [], by rw [k2]; rfl, by rw [k2]; rfl, fun i hi h' => absurd h' (by simp), ⟨rfl, a, 0, [], by simpa using k1, Nat.le_refl _, rfl, fun i h => absurd h (by simp), fun h => absurd rfl h⟩, fun _ h => h, fun _ h => .inl h, by simp, by simp⟩
   ·have hone : ∀ (i : Nat) (hi : i < es.length), ∃ v, es[i] = [v] := by
     intro i hi
     have := (k8 i (by omega) hi (by omega)).len
     match h : es[i], this with
     | [v], _ => exact ⟨v, rfl⟩
    let vs : List Value := es.map fun e => e.headD undef
    have hv : ∀ (i : Nat) (hi : i < es.length) (h' : i < vs.length), es[i] = [vs[i]] := by
     intro i hi h'
     obtain ⟨v, e⟩ := hone i hi
     simp only [vs, List.getElem_map, e, List.headD_cons]
    have hvl : vs.length = xs.length := by simp only [vs, List.length_map]; exact k6
    subst k10
    have hn := List.nodup_cons.1 hnd
    refine ⟨fun k => N k ∨ k = g, vs, Fs, hvl, k7, fun i hi h' h'' => ?_, ⟨rfl, some ⟨g, 0, none⟩, cap, vs.map fun v => [v], by rw [hvl]; simpa using k1, by rw [hvl]; exact k4, by simp, fun i hi hi' => ?_, fun _ => ⟨g, 0, rfl, .inr rfl, cc, T, (0, 0), k2, fun j v hj => ?_⟩⟩, fun _ h => .inl h, fun k h => h.imp id (fun e => by rw [e]; exact List.mem_cons_self ..), fun k hk h => ?_, List.sublist_cons_self _ _⟩
    ·have := k8 i hi (by omega) h''
     rwa [hv i (by omega) h'] at this
    ·have h1 := k8 i (by omega) (by omega) (by omega)
     have h2 := RepT.one' h1 vs[i] (by rw [hv i (by omega) hi]; simp)
     exact ⟨rfl, by simp, h2⟩
    ·have hfe : (vs.map fun v => [v]).flatten = es.flatten := by
      congr 1
      apply List.ext_getElem (by simp [vs])
      intro i h1 h2
      rw [hv i h2 (by simp [vs]; exact h2)]
      simp
     rw [hfe] at hj
     rw [← k9, List.getElem?_take] at hj
     split at hj
     ·simpa using hj
     ·cases hj
    ·rcases h with h | h
     ·exact (hG k (List.mem_cons_of_mem _ hk)).2 h
     ·subst h; exact hn.1 hk
  have h1q : RepT (memOf w) N0 (.sl tyLs) c [u1] [] := RepT.mono (fun b hb => ⟨hN0 b hb, rfl⟩) (by simp) h1'
  have hq' := hq c vs w N0 [u1, u2] hc (by omega) ⟨[], [], rfl, by simpa [RepA, Ty.isAgg] using h1q, [], [], rfl, by simpa [RepA, Ty.isAgg] using hsl, ⟨h3, rfl⟩⟩ (fun k hk => by
   rcases hN0u k hk with h | h
   ·exact hN k h
   ·exact (hG k h).1)
  refine Calls.mono hq' (fun e w' hp => ?_)
  cases e with
  | returned v =>
   obtain ⟨N', rs, G1, hmv, hup, hnew, hlt, hv, hrep, hgn, hgo⟩ := hp
   have hmem : ∀ k, k < w.heap.size → memOf w' k = memOf w k := fun k hk => hmv.block k hk (by simp)
   have hrows : ∀ (i : Nat) (hi : i < xs.length) (h' : i < vs.length) (h'' : i < Fs.length), RepT (memOf w') N' (.own tyI) xs[i] [vs[i]] Fs[i] := fun i hi h' h'' =>
    RepT.mono (fun b hb => ⟨hup b (hN0 b hb), hmem b (hN b hb)⟩) (fun k hk => hmem k (hG k (hFs.subset (List.mem_flatten.2 ⟨_, List.getElem_mem h'', hk⟩))).1) (hrow i hi h' h'')
   match rs, hrep with
   | [r], ⟨Fa, Fb, e1, hra, hrb, hFb⟩ =>
    subst e1; subst hFb
    have hra' : RepT (memOf w') N' (.own tyLq) (wtZ c vs) [r] Fa := by simpa [RepA, Ty.isAgg] using hra
    have hlv := zpv c vs (by omega)
    have hlx := zpv c xs hl
    simp only [List.append_nil] at hgn hgo
    have sub2 : (wtF c.length Fs).flatten.Sublist F3 := (zrU c.length Fs).trans hFs
    have fin : ∃ G1', RepT (memOf w') N' (.own tyLo) (wtZ c xs) [r] G1' ∧ G1'.Nodup ∧ ∀ k ∈ G1', k < w'.heap.size ∧ ¬ N' k ∧ (k ∈ F3 ∨ w.heap.size ≤ k) := by
     rcases hra' with ⟨a, k1, k2, k3⟩ | ⟨g, cap, cc, T, es, Gs, k1, k2, k3, k4, k5, k6, k7, k8, k9, k10⟩
     ·have hc0 : c.length = 0 := by rw [← hlv, k2]; rfl
      have hx0 : wtZ c xs = [] := List.length_eq_zero_iff.1 (by omega)
      exact ⟨[], .inl ⟨a, k1, hx0, rfl⟩, List.nodup_nil, by simp⟩
     ·have hmemG : ∀ k ∈ (wtF c.length Fs).flatten, k < w'.heap.size ∧ ¬ N' k ∧ (k ∈ F3 ∨ w.heap.size ≤ k) := fun k hk => by
       have hk3 := sub2.subset hk
       have h1 := hG k hk3
       refine ⟨Nat.lt_of_lt_of_le h1.1 hmv.size, fun h => ?_, .inl hk3⟩
       rcases hnew k h with h | h
       ·exact hN0F k ((zrU c.length Fs).subset hk) h
       ·omega
      have hg := hgo g (by rw [k10]; exact List.mem_cons_self ..)
      refine ⟨g :: (wtF c.length Fs).flatten, .inr ⟨g, cap, cc, T, es, wtF c.length Fs, by rw [hlx, ← hlv]; exact k1, k2, k3, by rw [hlx, ← hlv]; exact k4, k5, by rw [hlx, ← hlv]; exact k6, by rw [zvC _ _ (by omega), hlx], fun j hj hj' hj'' => ?_, k9, rfl⟩, List.nodup_cons.2 ⟨fun hk => ?_, hnd.sublist sub2⟩, fun k hk => ?_⟩
      ·have hjc : j < c.length := by rw [← hlx]; exact hj
       have hjq : j < (wtZ c vs).length := by omega
       have h8 := k8 j hjq hj' (by omega)
       rw [show (show List tyLq.den from wtZ c vs)[j]'hjq = ((c[j]).1, vs[2 * j], vs[2 * j + 1], ()) from zrW c vs j hjc (by omega) hjq (by omega) (by omega)] at h8
       rw [show (show List tyLo.den from wtZ c xs)[j]'hj = ((c[j]).1, xs[2 * j], xs[2 * j + 1], ()) from zrW c xs j hjc hl hj (by omega) (by omega), zvo c.length Fs j hjc (by omega) hj'' (by omega) (by omega)]
       exact (zyS h8 (hrows (2 * j) (by omega) (by omega) (by omega)) (hrows (2 * j + 1) (by omega) (by omega) (by omega))).2
      ·have := (hG g (sub2.subset hk)).1; have := hg.2.2; omega
      ·rcases List.mem_cons.1 hk with rfl | hk
       ·exact ⟨hg.1, hg.2.1, .inr hg.2.2⟩
       ·exact hmemG k hk
    obtain ⟨G1', f1, f2, f3⟩ := fin
    refine ⟨N', [r], G1', hmv.weaken (by simp), fun k hk => hup k (hN0 k hk), fun k hk => ?_, hlt, hv, ⟨G1', [], by simp, by simpa [RepA, Ty.isAgg] using f1, ⟨hrb, rfl⟩⟩, f2, f3⟩
    rcases hnew k hk with h | h
    ·rcases hN0u k h with h | h
     ·exact .inl h
     ·exact .inr (.inl h)
    ·exact .inr (.inr h)
  | _ => exact hp.elim
end Go.Proofs.YtenknihdnkiplaaGreatSs.Ev
