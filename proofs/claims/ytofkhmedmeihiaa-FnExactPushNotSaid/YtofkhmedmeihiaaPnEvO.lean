/- The evaluator: append. -/
import Derived.Test.YtofkhmedmeihiaaPnEvN
namespace Go.Proofs.YtofkhmedmeihiaaPn.Ev
open Go

/-- What is appended, as the builtin asks it. -/
structure AppSrc (P : Program) (w : World) (t' : TypeId) (x : Value) (size n : Nat) (news : List Value) : Prop where
  ty : (∃ e, P.underlying t' = some (.slice e)) ∨ P.underlying t' = some .string
  len : ∀ w', (Builtin.lenOf x).run P w' = .ok n w'
  first : ∀ w' : World, (∀ a, w'.cell? a = w.cell? a) → (Builtin.firstCells size n x).run P w' = .ok news.toArray w'
  hl : news.length = n * size

section
variable {P : Program} {w : World} {t t' ty te : TypeId} {i : TypeInfo} {z : Value} {x : Value} {m : Nat} {news : List Value}

theorem run_append_src_room (ht : P.underlying t = some (.slice te)) (hi : P.info? te = some i) (S : AppSrc P w t' x i.size m news)
    {g sLen sCap : Nat} {cur : Array Value} {T : TypeId} (hg : w.heap[g]? = some (.cells cur T (0, 0))) (h1 : ∀ u ∈ news, u.oneCell' = true) (hroom : sLen + m ≤ sCap) (hfit : sLen * i.size + news.length ≤ cur.size) :
    (Builtin.append_ #[t, t'] ty #[.slice (some ⟨g, 0, none⟩) sLen sCap, x]).run P w =
      .ok (.slice (some ⟨g, 0, none⟩) (sLen + m) sCap) (w.setRow g (cur.toList.take (sLen * i.size) ++ news ++ cur.toList.drop (sLen * i.size + news.length)).toArray) := by
  have hst := run_storeCells_at P g (sLen * i.size) T news 0 cur w hg (by simpa using hfit) h1
  simp only [Nat.add_zero] at hst
  have hf := S.first w (fun _ => rfl)
  rcases S.ty with ⟨e, hd⟩ | hd <;> simp [Builtin.append_, run_underlying ht, run_underlying hd, sizeOf, typeInfo, hi, S.len, hroom, hf, Addr.add_none, hst]

theorem run_append_src_none (ht : P.underlying t = some (.slice te)) (hi : P.info? te = some i) (S : AppSrc P w t' x i.size 0 news) {a : Option Addr} {sLen sCap : Nat} (hroom : sLen ≤ sCap) :
    (Builtin.append_ #[t, t'] ty #[.slice a sLen sCap, x]).run P w = .ok (.slice a sLen sCap) w := by
  have hn : news = [] := List.eq_nil_of_length_eq_zero (by simpa using S.hl)
  have hf := S.first w (fun _ => rfl)
  rw [hn] at hf
  cases a <;> rcases S.ty with ⟨e, hd⟩ | hd <;> simp [Builtin.append_, run_underlying ht, run_underlying hd, sizeOf, typeInfo, hi, S.len, hroom, hf, storeCells]

theorem run_append_src_grow (ht : P.underlying t = some (.slice te)) (hi : P.info? te = some i) (hz : i.zero = some z) (S : AppSrc P w t' x i.size m news)
    {a : Option Addr} {sLen sCap : Nat} {olds : List Value} (holds : ∀ w' : World, (∀ a, w'.cell? a = w.cell? a) → (Builtin.firstCells i.size sLen (.slice a sLen sCap)).run P w' = .ok olds.toArray w')
    (hg : sCap < sLen + m) (h63 : ((sLen + m : Nat) : Int) ≤ 9223372036854775807) (hfit : Builtin.nextslicecap (sLen + m) sCap * i.bytes ≤ 281474976710656) :
    (Builtin.append_ #[t, t'] ty #[.slice a sLen sCap, x]).run P w =
      .ok (.slice (some ⟨w.heap.size, 0, none⟩) (sLen + m) (grownCap w (sLen + m) sCap te))
        (w.drew.alloc (.cells (olds.toArray ++ news.toArray ++ Builtin.zeroCells z.cells (grownCap w (sLen + m) sCap te - (sLen + m))) te)) := by
  have hn : ¬ (sLen + m ≤ sCap) := by omega
  have h63' : ¬ (9223372036854775807 < ((sLen : Int) + (m : Int))) := by omega
  have h48' : ¬ (281474976710656 < Builtin.nextslicecap (sLen + m) sCap * i.bytes) := by omega
  have hf := S.first w.drew (fun _ => by simp)
  have hfo := holds w.drew (fun _ => by simp)
  have hfin : (olds.toArray ++ (news.toArray ++ Builtin.zeroCells z.cells (grownCap w (sLen + m) sCap te - (sLen + m)))) = (olds.toArray ++ news.toArray ++ Builtin.zeroCells z.cells (grownCap w (sLen + m) sCap te - (sLen + m))) := by
    rw [Array.append_assoc]
  rcases S.ty with ⟨e, hd⟩ | hd
  all_goals
    simp [Builtin.append_, run_underlying ht, run_underlying hd, sizeOf, typeInfo, zeroValue, hi, hz, S.len, hn, h63', h48', Question.forced, hf, hfo, newRow, grownCap]
    try (congr 2; apply Array.ext'; simp [List.append_assoc])

/-- How a row that was appended to stands in memory. -/
structure AppRow (w w' : World) (size n : Nat) (xs : List Value) (g? : Option Nat) (v' : Value) (g' : Nat) : Prop where
  row : ∃ cap cells T, v' = .slice (some ⟨g', 0, none⟩) n cap ∧ memOf w' g' = some (.cells cells T (0, 0)) ∧ cells.size = cap * size ∧ n ≤ cap ∧ cap ≤ maxLen ∧ cells.toList.take xs.length = xs
  mv : (g? = some g' ∧ Moves w w' [g'] ∧ w'.heap.size = w.heap.size) ∨ (g' = w.heap.size ∧ Moves w w' [] ∧ w'.heap.size = w.heap.size + 1)

theorem run_append_src (ht : P.underlying t = some (.slice te)) (hi : P.info? te = some i) (hz : i.zero = some z) (hzs : z.cells.size = i.size) (hb0 : i.bytes ≠ 0) (S : AppSrc P w t' x i.size m news) (h1 : ∀ u ∈ news, u.oneCell' = true)
    {v : Value} {n : Nat} {olds : List Value} {g? : Option Nat} (hbytes : (n + m) * i.bytes ≤ 140737488355328)
    (hv : (∃ a, v = .slice a 0 0 ∧ n = 0 ∧ olds = []) ∨ ∃ g cap cur T, g? = some g ∧ v = .slice (some ⟨g, 0, none⟩) n cap ∧ memOf w g = some (.cells cur T (0, 0)) ∧ cur.size = cap * i.size ∧ n ≤ cap ∧ cap ≤ maxLen ∧ olds.length = n * i.size ∧ cur.toList.take (n * i.size) = olds) :
    (m = 0 ∧ news = [] ∧ (Builtin.append_ #[t, t'] ty #[v, x]).run P w = .ok v w) ∨
    ∃ v' w' g', (Builtin.append_ #[t, t'] ty #[v, x]).run P w = .ok v' w' ∧ AppRow w w' i.size (n + m) (olds ++ news) g? v' g' := by
  have hnm : n + m ≤ 140737488355328 := Nat.le_trans (Nat.le_mul_of_pos_right _ (Nat.pos_of_ne_zero hb0)) hbytes
  have hmax : n + m ≤ maxLen := by simp only [maxLen]; omega
  by_cases hm : m = 0
  · subst hm
    have hn : news = [] := List.eq_nil_of_length_eq_zero (by simpa using S.hl)
    rcases hv with ⟨a, rfl, _⟩ | ⟨g, cap, cur, T, _, rfl, _, _, hle, _⟩
    · exact .inl ⟨rfl, hn, run_append_src_none ht hi S (Nat.le_refl _)⟩
    · exact .inl ⟨rfl, hn, run_append_src_none ht hi S hle⟩
  · right
    have grown : ∀ (olds : List Value) (old : Nat), olds.length = n * i.size → ∃ cells : Array Value, olds.toArray ++ news.toArray ++ Builtin.zeroCells z.cells (grownCap w (n + m) old te - (n + m)) = cells ∧ 
        AppRow w (w.drew.alloc (.cells cells te)) i.size (n + m) (olds ++ news) g? (.slice (some ⟨w.heap.size, 0, none⟩) (n + m) (grownCap w (n + m) old te)) w.heap.size := by
      intro olds old hol
      refine ⟨_, rfl, ⟨⟨_, _, te, rfl, memOf_alloc_new w.drew _, ?_, grownCap_ge w (n + m) old te, grownCap_le_maxLen w (n + m) old te hmax, ?_⟩, .inr ⟨rfl, (Moves.drew w).trans (Moves.alloc w.drew _), by simp⟩⟩⟩
      · have hge := grownCap_ge w (n + m) old te
        simp only [Array.size_append, List.size_toArray, size_zeroCells, hzs, hol, S.hl, ← Nat.add_mul]
        congr 1
        omega
      · simp only [Array.toList_append, List.append_assoc]
        rw [← List.append_assoc]
        exact List.take_left
    rcases hv with ⟨a, rfl, rfl, rfl⟩ | ⟨g, cap, cur, T, hg?, rfl, hg, hcs, hnc, hcm, hol, htake⟩
    · obtain ⟨cells, hc, hr⟩ := grown [] 0 (by simp)
      have := run_append_src_grow (ty := ty) ht hi hz S (a := a) (sLen := 0) (sCap := 0) (olds := []) (fun w' hw => by
        cases a with
        | none => simp [Builtin.firstCells]
        | some a => exact run_firstCells_some w' i.size 0 a 0 0 [] (by simp) (by simp)) (by omega) (by omega) (growslice_fits (by omega) hbytes)
      rw [hc] at this
      exact ⟨_, _, _, this, hr⟩
    · by_cases hroom : n + m ≤ cap
      · have hfit : n * i.size + news.length ≤ cur.size := by rw [S.hl, hcs, ← Nat.add_mul]; exact Nat.mul_le_mul_right _ hroom
        have := run_append_src_room (ty := ty) ht hi S hg h1 hroom hfit
        refine ⟨_, _, g, this, ⟨⟨cap, _, T, rfl, memOf_setRow_same w _ hg, ?_, hroom, hcm, ?_⟩, .inl ⟨hg?, Moves.setRow w g _, by simp⟩⟩⟩
        · simp only [List.size_toArray, List.length_append, List.length_take, List.length_drop, Array.length_toList]
          omega
        · simp only [htake]
          exact List.take_left
      · obtain ⟨cells, hc, hr⟩ := grown olds cap hol
        have := run_append_src_grow (ty := ty) ht hi hz S (a := some ⟨g, 0, none⟩) (sLen := n) (sCap := cap) (olds := olds) (fun w' hw =>
          run_firstCells_some w' i.size n ⟨g, 0, none⟩ n cap olds hol (fun j u hj => by
            rw [hw, Addr.add_none, Nat.zero_add]
            rw [← htake, List.getElem?_take] at hj
            split at hj
            · have hg' : w.heap[g]? = some (.cells cur T (0, 0)) := hg
              simp [World.cell?, hg']
              simpa using hj
            · cases hj)) (by omega) (by omega) (growslice_fits (by omega) hbytes)
        rw [hc] at this
        exact ⟨_, _, _, this, hr⟩
end

end Go.Proofs.YtofkhmedmeihiaaPn.Ev
