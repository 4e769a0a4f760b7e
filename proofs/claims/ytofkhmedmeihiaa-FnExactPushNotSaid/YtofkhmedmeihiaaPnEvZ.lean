/- The evaluator and a row: what is read of an argument stands for plain data. -/
import Derived.Test.YtofkhmedmeihiaaPnEvY
import Derived.ChangeArms
import Derived.Below
namespace Go.Proofs.YtofkhmedmeihiaaPn.Ev
open Go Go.RowKit

/-- Plain data that fit: each number in its kind, each length in reach. -/
def wfT : (τ : Ty) → τ.den → Prop
  | .int k, n => (Lit.int k n).wf = true
  | .str, x => List.length x ≤ maxLen
  | .sl e, xs => List.length xs ≤ maxLen ∧ ∀ x ∈ (xs : List e.den), wfT e x
  | .agg fs, x => wfT fs x
  | .cons a r, x => wfT a x.1 ∧ wfT r x.2
  | _, _ => True

def dtFs (P : Program) (rec : TypeId → Option Ty) : List Field → Nat → Option Ty
  | [], _ => some .nil
  | f :: r, off => match rec f.type, dtFs P rec r (off + P.cellsOf f.type) with
    | some a, some b => if f.offset = off ∧ P.cellsOf f.type = a.sz then some (.cons a b) else none
    | _, _ => none
/-- The type of plain data that a table's row stands for, its places as they lie. -/
def dtP (P : Program) : Nat → TypeId → Option Ty
  | 0, _ => none
  | n + 1, t => match P.underlying t with
    | some .bool => some .bool
    | some (.int k) => some (.int k)
    | some .string => some .str
    | some (.slice e) => match dtP P n e with
      | some τ => if P.cellsOf e = τ.sz ∧ τ.sz ≠ 0 then some (.sl τ) else none
      | none => none
    | some (.struct fs) => match dtFs P (dtP P n) fs.toList 0 with
      | some τs => if P.cellsOf t = τs.sz then some (.agg τs) else none
      | none => none
    | _ => none

section
variable {H : Type} {enc : TypeId × Value → H} {P : Program} {w : World} {spare : Nat → Bool} {held : Bool}

theorem cells_get {base : Nat} {a : Addr} {n : Nat} {cs : List Value} (h : w.cells? base a n = some cs) : cs.length = n ∧ ∀ (i : Nat) (v : Value), cs[i]? = some v → w.cell? (a.add i) = some v := by
  unfold World.cells? at h
  split at h
  · have hl := mapM_some_length h
    have hl' : cs.length = n := by simpa using hl
    refine ⟨hl', fun i v hv => ?_⟩
    have hi : i < n := by
      have := (List.getElem?_eq_some_iff.1 hv).1; omega
    have := mapM_some_get h i i (by simp [hi])
    rw [this, hv]
  · cases h

theorem cell_some {a : Addr} {v : Value} (h : w.cell? a = some v) : a.spot = none ∧ ∃ c T fr, w.heap[a.block]? = some (.cells c T fr) ∧ c[a.off]? = some v := by
  unfold World.cell? at h
  split at h
  · rename_i c T fr hc
    split at h
    · cases h
    · rename_i hs
      exact ⟨by simpa using hs, c, T, fr, hc, h⟩
  · cases h

theorem add_block (a : Addr) (n : Nat) : (a.add n).block = a.block := by unfold Addr.add; split <;> rfl
theorem add_off (a : Addr) (n : Nat) : (a.add n).off = a.off + n := by
  unfold Addr.add; split
  · rename_i h; simp [h]
  · rfl

theorem add_add (a : Addr) (m n : Nat) : (a.add m).add n = a.add (m + n) := by
  unfold Addr.add
  by_cases hm : m = 0
  · subst hm; simp
  · by_cases hn : n = 0
    · subst hn; simp
    · rw [if_neg hm, if_neg hn, if_neg (by omega)]; simp [Nat.add_assoc]

theorem trod_rep : ∀ (n : Nat), (∀ (t : TypeId) (τ : Ty), dtP P n t = some τ → ∀ (fuel : Nat) (cs : List Value) (y : DataW H × List MemPlace), DataW.trod enc P w 0 spare held fuel t cs = some y → ∃ x : τ.den, RepT (memOf w) (fun k => k < w.heap.size) τ x cs [] ∧ wfT τ x) ∧
    (∀ (fs : List Field) (off : Nat) (τs : Ty), dtFs P (dtP P n) fs off = some τs → ∀ (cs : List Value), cs.length = off + τs.sz → (∀ f ∈ fs, ∃ fuel y, DataW.trod enc P w 0 spare held fuel f.type ((cs.drop f.offset).take (P.cellsOf f.type)) = some y) →
      ∃ x : τs.den, RepT (memOf w) (fun k => k < w.heap.size) τs x (cs.drop off) [] ∧ wfT τs x) := by
  intro n
  induction n with
  | zero =>
    refine ⟨fun t τ h => by simp [dtP] at h, fun fs off τs h cs hl hf => ?_⟩
    cases fs with
    | nil =>
      simp [dtFs] at h
      subst h
      exact ⟨(), ⟨List.drop_eq_nil_of_le (by rw [hl]; simp [Ty.sz]), rfl⟩, trivial⟩
    | cons f r => simp [dtFs, dtP] at h
  | succ n ih =>
    have hA : ∀ (t : TypeId) (τ : Ty), dtP P (n + 1) t = some τ → ∀ (fuel : Nat) (cs : List Value) (y : DataW H × List MemPlace), DataW.trod enc P w 0 spare held fuel t cs = some y → ∃ x : τ.den, RepT (memOf w) (fun k => k < w.heap.size) τ x cs [] ∧ wfT τ x := by
      intro t τ h fuel cs y hy
      unfold dtP at h
      split at h
      · rename_i hu
        obtain rfl := Option.some.inj h
        obtain ⟨b, rfl, _⟩ := DataW.trod_bool hu hy
        exact ⟨b, ⟨rfl, rfl⟩, trivial⟩
      · rename_i k hu
        obtain rfl := Option.some.inj h
        obtain ⟨m, rfl, _, hw⟩ := DataW.trod_int hu hy
        exact ⟨m, ⟨rfl, rfl⟩, hw⟩
      · rename_i hu
        obtain rfl := Option.some.inj h
        obtain ⟨s, rfl, _, hs⟩ := DataW.trod_string hu hy
        exact ⟨s.data.toList, ⟨rfl, rfl⟩, by simpa [wfT] using hs⟩
      · rename_i e hu
        split at h
        · rename_i τ' hτ
          split at h
          · rename_i hc
            obtain rfl := Option.some.inj h
            rcases DataW.trod_slice hu hy with ⟨rfl, _⟩ | ⟨a, len, cap, elems, rest, m, _, rfl, _, hb, hlc, hcm, hel, hget, _, _⟩
            · exact ⟨[], ⟨rfl, none, 0, [], rfl, Nat.le_refl _, rfl, fun i h => absurd h (by simp), fun h => absurd rfl h⟩, by simp [wfT]⟩
            · have hone : ∀ i, i < len → ∃ (cs' : List Value) (x : τ'.den), w.cells? 0 (a.add (i * P.cellsOf e)) (P.cellsOf e) = some cs' ∧ RepT (memOf w) (fun k => k < w.heap.size) τ' x cs' [] ∧ wfT τ' x := by
                intro i hi
                have h1 := hget i hi
                rw [List.getElem?_eq_getElem (by omega)] at h1
                obtain ⟨cs', hcs, hy'⟩ := Option.bind_eq_some_iff.1 h1
                obtain ⟨x, hx1, hx2⟩ := ih.1 e τ' hτ m cs' _ hy'
                exact ⟨cs', x, hcs, hx1, hx2⟩
              let pc : Nat → List Value := fun i => if h : i < len then Classical.choose (hone i h) else []
              have hpc : ∀ i (h : i < len), ∃ x : τ'.den, w.cells? 0 (a.add (i * P.cellsOf e)) (P.cellsOf e) = some (pc i) ∧ RepT (memOf w) (fun k => k < w.heap.size) τ' x (pc i) [] ∧ wfT τ' x := by
                intro i h
                have := Classical.choose_spec (hone i h)
                simp only [pc, dif_pos h]
                exact this
              let px : (i : Nat) → (h : i < len) → τ'.den := fun i h => Classical.choose (hpc i h)
              have hpx : ∀ i (h : i < len), w.cells? 0 (a.add (i * P.cellsOf e)) (P.cellsOf e) = some (pc i) ∧ RepT (memOf w) (fun k => k < w.heap.size) τ' (px i h) (pc i) [] ∧ wfT τ' (px i h) := fun i h => Classical.choose_spec (hpc i h)
              have hxl : (List.ofFn fun i : Fin len => px i.1 i.2).length = len := by simp
              have hlen : ∀ x ∈ (List.ofFn fun i : Fin len => pc i.1), x.length = τ'.sz := by
                intro x hx
                obtain ⟨i, rfl⟩ := List.mem_ofFn.1 hx
                exact (hpx i.1 i.2).2.1.len
              refine ⟨List.ofFn fun i : Fin len => px i.1 i.2, ⟨rfl, some a, cap, List.ofFn fun i : Fin len => pc i.1, by rw [hxl], by rw [hxl]; exact hlc, by simp, fun i h h' => ?_, fun hne => ?_⟩, ?_⟩
              · rw [hxl] at h
                simp only [List.getElem_ofFn]
                exact (hpx i h).2.1
              · have h0 : 0 < len := by
                  rcases Nat.eq_zero_or_pos len with h0 | h0
                  · exact absurd (List.eq_nil_of_length_eq_zero (hxl.trans h0)) hne
                  · exact h0
                have hcell : ∀ (j : Nat) (v : Value), (List.ofFn fun i : Fin len => pc i.1).flatten[j]? = some v → w.cell? (a.add j) = some v := by
                  intro j v hv
                  have hfl := flatten_len_of_len _ hlen
                  have hj := (List.getElem?_eq_some_iff.1 hv).1
                  rw [hfl, List.length_ofFn] at hj
                  have hsz : 0 < τ'.sz := Nat.pos_of_ne_zero hc.2
                  have hd : j / τ'.sz < len := by rw [Nat.div_lt_iff_lt_mul hsz]; exact hj
                  have hm : j % τ'.sz < τ'.sz := Nat.mod_lt _ hsz
                  have hjd : j = (j / τ'.sz) * τ'.sz + j % τ'.sz := by have := Nat.div_add_mod j τ'.sz; rw [Nat.mul_comm] at this; omega
                  have hsub : ((List.ofFn fun i : Fin len => pc i.1).flatten.drop ((j / τ'.sz) * τ'.sz))[j % τ'.sz]? = some v := by
                    rw [List.getElem?_drop, ← hjd]; exact hv
                  rw [flatten_drop_of_len _ _ hlen, List.drop_eq_getElem_cons (by simpa using hd), List.flatten_cons, List.getElem?_append_left (by
                    rw [hlen _ (List.getElem_mem _)]; exact hm)] at hsub
                  simp only [List.getElem_ofFn] at hsub
                  have := (cells_get (hpx _ hd).1).2 _ _ hsub
                  rw [hc.1] at this
                  rw [add_add, ← hjd] at this
                  exact this
                have hfirst : ∃ v, (List.ofFn fun i : Fin len => pc i.1).flatten[0]? = some v := by
                  have hfl := flatten_len_of_len _ hlen
                  rw [List.length_ofFn] at hfl
                  have : 0 < (List.ofFn fun i : Fin len => pc i.1).flatten.length := by rw [hfl]; exact Nat.mul_pos h0 (Nat.pos_of_ne_zero hc.2)
                  exact ⟨_, List.getElem?_eq_getElem this⟩
                obtain ⟨v0, hv0⟩ := hfirst
                have h00 := hcell 0 v0 hv0
                have ha0 : a.add 0 = a := by simp [Addr.add]
                rw [ha0] at h00
                obtain ⟨hspot, c, T, fr, hcb, _⟩ := cell_some h00
                have ha : a = ⟨a.block, a.off, none⟩ := by
                  cases a; simp at hspot; simp [hspot]
                refine ⟨a.block, a.off, congrArg some ha, (Array.getElem?_eq_some_iff.1 hcb).1, c, T, fr, hcb, fun j v hv => ?_⟩
                have h1 := hcell j v hv
                obtain ⟨_, c', T', fr', hcb', hv'⟩ := cell_some h1
                rw [add_block, hcb] at hcb'
                injection hcb' with hcb'
                injection hcb' with hc1
                subst hc1
                rw [add_off] at hv'
                exact hv'
              · refine ⟨by rw [hxl]; omega, fun x hx => ?_⟩
                obtain ⟨i, rfl⟩ := List.mem_ofFn.1 hx
                exact (hpx i.1 i.2).2.2
          · cases h
        · cases h
      · rename_i fs hu
        split at h
        · rename_i τs hτ
          split at h
          · rename_i hc
            obtain rfl := Option.some.inj h
            obtain ⟨xs, m, _, _, hl, hxl, hg⟩ := DataW.trod_struct hu hy
            obtain ⟨x, h1, h2⟩ := ih.2 fs.toList 0 τs hτ cs (by rw [hl, hc]; omega) (fun f hf => by
              obtain ⟨i, hi⟩ := List.getElem?_of_mem hf
              have h1 := hg i f (by simpa using hi)
              have hlt : i < xs.length := by
                have := (List.getElem?_eq_some_iff.1 hi).1
                simp at this; omega
              rw [List.getElem?_eq_getElem hlt] at h1
              exact ⟨m, _, h1⟩)
            rw [List.drop_zero] at h1
            exact ⟨x, h1, h2⟩
          · cases h
        · cases h
      · cases h
    refine ⟨hA, fun fs => ?_⟩
    induction fs with
    | nil =>
      intro off τs h cs hl hf
      simp [dtFs] at h
      subst h
      exact ⟨(), ⟨List.drop_eq_nil_of_le (by rw [hl]; simp [Ty.sz]), rfl⟩, trivial⟩
    | cons f r ihr =>
      intro off τs h cs hl hf
      simp only [dtFs] at h
      split at h
      · rename_i a b ha hb
        split at h
        · rename_i hc
          obtain rfl := Option.some.inj h
          obtain ⟨hoff, hsz⟩ := hc
          obtain ⟨fuel, y, hy⟩ := hf f (by simp)
          obtain ⟨x1, k1, k2⟩ := hA f.type a ha fuel _ y hy
          have hl' : cs.length = off + P.cellsOf f.type + b.sz := by rw [hl, hsz]; simp [Ty.sz]; omega
          obtain ⟨x2, k3, k4⟩ := ihr (off + P.cellsOf f.type) b hb cs hl' (fun g hg => hf g (List.mem_cons_of_mem _ hg))
          refine ⟨(x1, x2), ⟨(cs.drop f.offset).take (P.cellsOf f.type), cs.drop (off + P.cellsOf f.type), [], [], ?_, rfl, k1, k3⟩, k2, k4⟩
          rw [hoff, ← List.drop_drop, List.take_append_drop]
        · cases h
      · cases h
end

/-- A call that is handed nothing of its own: what the evaluator says comes back, and the blocks that were there stay. -/
theorem law_calls {E : Env} (hX : ExtSound E) (hm : E.P.follows .mixedOrders = true) {f n : Nat} {x : (E.ps f).den} {yz : E.Ret f} (h : (On E n).C f x = some yz) {w : World} {us : List Value} (hr : RepAs (memOf w) (fun k => k < w.heap.size) (E.ps f) x us []) :
    Calls E.P (rl f) us.toArray w (fun e w' => Below w.heap.size w w' ∧ ∃ N' rs G1, e = .returned (retOf rs) ∧ RepAs (memOf w') N' (E.rs f) yz.1 rs G1) := by
  refine Calls.mono ((On_ok hX hm n).1.2 f x yz h w (fun k => k < w.heap.size) us [] hr List.nodup_nil (by simp) (fun _ h => h)) (fun e w' hp => ?_)
  cases e with
  | returned v =>
    obtain ⟨N', rs, G1, G2, D⟩ := hp
    exact ⟨⟨D.mv.os, D.mv.tape, D.mv.output, D.mv.size, fun k hk => D.mv.block k hk (by simp)⟩, N', rs, G1, by rw [D.val], D.rep⟩
  | _ => exact hp.elim

/-- 'f at x gives yz', at every level from some one on. -/
def Gets (E : Env) (f : Nat) (x : (E.ps f).den) (yz : E.Ret f) : Prop := ∃ N, ∀ n, N ≤ n → (On E n).C f x = some yz
def GetsL (E : Env) (f : Nat) (h : LoopH) (c : Code) (x : h.hτ.den) (v : h.oτ.den ⊕ E.Ret f) : Prop := ∃ N, ∀ n, N ≤ n → (On E n).L f h c x = some v

/-- From the levels below. -/
theorem Gets.step {E : Env} {f : Nat} {x : (E.ps f).den} {yz : E.Ret f} (h : ∃ N, ∀ n, N ≤ n → (Φ E (On E n)).C f x = some yz) : Gets E f x yz := by
  obtain ⟨N, h⟩ := h
  refine ⟨N + 1, fun n hn => ?_⟩
  cases n with
  | zero => omega
  | succ n => exact h n (by omega)
theorem GetsL.step {E : Env} {f : Nat} {h : LoopH} {c : Code} {x : h.hτ.den} {v : h.oτ.den ⊕ E.Ret f} (hh : ∃ N, ∀ n, N ≤ n → (Φ E (On E n)).L f h c x = some v) : GetsL E f h c x v := by
  obtain ⟨N, hh⟩ := hh
  refine ⟨N + 1, fun n hn => ?_⟩
  cases n with
  | zero => omega
  | succ n => exact hh n (by omega)

end Go.Proofs.YtofkhmedmeihiaaPn.Ev
