/- A text of its own: Cl; no condition but those that each theorem names. -/
import Derived.Test.YtkgpnekonnopgaaGreatIrEnv
import Derived.Test.YtkgpnekonnopgaaGreatIrEvWt
import Derived.Shelf.RegionOpenPlain
import Derived.Test.YtkgpnekonnopgaaGreatIrWt
import Derived.Test.YtkgpnekonnopgaaGreatIrSh
namespace Go.Proofs.YtkgpnekonnopgaaGreatIr.Ev
open Go Go.Lib Go.RowKit Go.Proofs
set_option maxHeartbeats 2000000 in
set_option maxRecDepth 100000 in
theorem clone71 : CloneOK Tryz.prog 71 22 := by
  intro te hte w N e xs v himm hes hN hE hroom
  have t22 := Tryz.underlying22
  have hte0 : elemP Tryz.prog 22 = some 3 := by kernel_rfl
  obtain rfl : te = 3 := Option.some.inj (hte.symm.trans hte0)
  obtain ⟨v', w', hrun, hfin⟩ := zqD himm t22 (by kernel_rfl) (by decide +kernel) hes hN hE hroom
  obtain ⟨a, cap, es, rfl, hcap, hlen, hel, hpt⟩ := hE
  have q22 : ∀ (w : World) (a : Option Addr) (n c n' c' : Nat), (binOp .eql 22 (.slice a n c) (.slice none n' c')).run Tryz.prog w = .ok (.bool a.isNone) w := fun w a n c n' c' => Lib.run_eql_slice_nil w _ _ a n c n' c' Tryz.underlying22
  have u22 : ∀ w, Sem.run Tryz.prog (underlying 22) w = .ok (TypeDesc.slice 3) w := run_underlying t22
  cases a with
  | none =>
    have hx : xs = [] := Classical.byContradiction fun hn => by
      obtain ⟨b, off, h, _⟩ := hpt hn
      cases h
    subst hx
    go_enter Tryz.func71, Tryz.ntmps71
    go_wp2
    go_ret
    exact ⟨[], Moves.refl w, .inl ⟨none, rfl, rfl, rfl⟩, by simp, List.nodup_nil⟩
  | some a =>
    go_enter Tryz.func71, Tryz.ntmps71
    go_wp2_with (at_builtin; refine zp3 rfl _ _ 22 rfl rfl rfl hrun ?_)
    go_wp2
    go_ret
    exact hfin
set_option maxHeartbeats 2000000 in
set_option maxRecDepth 100000 in
theorem clone120 : CloneOK Tryz.prog 120 42 := by
  intro te hte w N e xs v himm hes hN hE hroom
  have t42 := Tryz.underlying42
  have hte0 : elemP Tryz.prog 42 = some 83 := by kernel_rfl
  obtain rfl : te = 83 := Option.some.inj (hte.symm.trans hte0)
  obtain ⟨v', w', hrun, hfin⟩ := zqD himm t42 (by kernel_rfl) (by decide +kernel) hes hN hE hroom
  obtain ⟨a, cap, es, rfl, hcap, hlen, hel, hpt⟩ := hE
  have q42 : ∀ (w : World) (a : Option Addr) (n c n' c' : Nat), (binOp .eql 42 (.slice a n c) (.slice none n' c')).run Tryz.prog w = .ok (.bool a.isNone) w := fun w a n c n' c' => Lib.run_eql_slice_nil w _ _ a n c n' c' Tryz.underlying42
  have u42 : ∀ w, Sem.run Tryz.prog (underlying 42) w = .ok (TypeDesc.slice 83) w := run_underlying t42
  cases a with
  | none =>
    have hx : xs = [] := Classical.byContradiction fun hn => by
      obtain ⟨b, off, h, _⟩ := hpt hn
      cases h
    subst hx
    go_enter Tryz.func120, Tryz.ntmps120
    go_wp2
    go_ret
    exact ⟨[], Moves.refl w, .inl ⟨none, rfl, rfl, rfl⟩, by simp, List.nodup_nil⟩
  | some a =>
    go_enter Tryz.func120, Tryz.ntmps120
    go_wp2_with (at_builtin; refine zp3 rfl _ _ 42 rfl rfl rfl hrun ?_)
    go_wp2
    go_ret
    exact hfin
set_option maxHeartbeats 2000000 in
set_option maxRecDepth 100000 in
theorem clone183 : CloneOK Tryz.prog 183 126 := by
  intro te hte w N e xs v himm hes hN hE hroom
  have t126 := Tryz.underlying126
  have hte0 : elemP Tryz.prog 126 = some 22 := by kernel_rfl
  obtain rfl : te = 22 := Option.some.inj (hte.symm.trans hte0)
  obtain ⟨v', w', hrun, hfin⟩ := zqD himm t126 (by kernel_rfl) (by decide +kernel) hes hN hE hroom
  obtain ⟨a, cap, es, rfl, hcap, hlen, hel, hpt⟩ := hE
  have q126 : ∀ (w : World) (a : Option Addr) (n c n' c' : Nat), (binOp .eql 126 (.slice a n c) (.slice none n' c')).run Tryz.prog w = .ok (.bool a.isNone) w := fun w a n c n' c' => Lib.run_eql_slice_nil w _ _ a n c n' c' Tryz.underlying126
  have u126 : ∀ w, Sem.run Tryz.prog (underlying 126) w = .ok (TypeDesc.slice 22) w := run_underlying t126
  cases a with
  | none =>
    have hx : xs = [] := Classical.byContradiction fun hn => by
      obtain ⟨b, off, h, _⟩ := hpt hn
      cases h
    subst hx
    go_enter Tryz.func183, Tryz.ntmps183
    go_wp2
    go_ret
    exact ⟨[], Moves.refl w, .inl ⟨none, rfl, rfl, rfl⟩, by simp, List.nodup_nil⟩
  | some a =>
    go_enter Tryz.func183, Tryz.ntmps183
    go_wp2_with (at_builtin; refine zp3 rfl _ _ 126 rfl rfl rfl hrun ?_)
    go_wp2
    go_ret
    exact hfin
set_option maxHeartbeats 2000000 in
set_option maxRecDepth 100000 in
theorem grow150 : GrowOK Tryz.prog 150 42 := by
  intro te hte w N e n himm hes hroom
  have t42 := Tryz.underlying42
  have hte0 : elemP Tryz.prog 42 = some 83 := by kernel_rfl
  obtain rfl : te = 83 := Option.some.inj (hte.symm.trans hte0)
  obtain ⟨it, z, hi1, hi2, hi3, hi4, hi5⟩ := zgb (P := Tryz.prog) (t := 83) (by kernel_rfl)
  have hb0 : bytesP Tryz.prog 83 = 56 := by kernel_rfl
  have hs0 : szP Tryz.prog 83 ≠ 0 := by decide +kernel
  by_cases hn : n = 0
  · subst hn
    go_enter Tryz.func150, Tryz.ntmps150
    go_wp2
    go_ret
    exact ⟨[], Moves.refl w, .inl ⟨none, rfl, rfl, rfl⟩, by simp, List.nodup_nil⟩
  · rw [hb0] at hroom
    have hrz := Lib.run_append_nil_zeros (P := Tryz.prog) w 42 3 42 83 it z .i64 .i64 t42 Tryz.underlying3 hi1 hi2 n (by omega) (by rw [hi3]; exact Nat.pos_of_ne_zero hs0) (by omega) (by rw [hi5, hb0]; omega)
    have hrep := zvY (P := Tryz.prog) (te := 83) (e := e) (w := w) (N := N) (n := n) hes (hi4.trans hi3) (by unfold maxLen; omega)
    clear hi4
    generalize z.cells = zc at hrz hrep
    have h1 : ¬ ((n : Int) < 0) := by omega
    have h2 : (n : Int) > 0 := by omega
    have h3 : wrap64 ((n : Int) - 0) = (n : Int) := by unfold wrap64; omega
    have h4 : wrap64 ((n : Int)) = (n : Int) := by unfold wrap64; omega
    go_enter Tryz.func150, Tryz.ntmps150
    go_wp2_with (at_builtin; refine Lib.wpList_append_run _ rfl _ _ _ _ rfl _ _ rfl rfl _ _ hrz ?_)
    go_wp2
    go_ret
    first
    | exact ⟨[w.heap.size], (Moves.drew w).trans (Moves.alloc w.drew _), hrep, by simp, by simp⟩
    | exact ⟨(Moves.alloc w _).trans (Moves.drew _), [w.heap.size], hrep, by simp, by simp⟩
set_option maxHeartbeats 2000000 in
set_option maxRecDepth 100000 in
theorem grow171 : GrowOK Tryz.prog 171 22 := by
  intro te hte w N e n himm hes hroom
  have t22 := Tryz.underlying22
  have hte0 : elemP Tryz.prog 22 = some 3 := by kernel_rfl
  obtain rfl : te = 3 := Option.some.inj (hte.symm.trans hte0)
  obtain ⟨it, z, hi1, hi2, hi3, hi4, hi5⟩ := zgb (P := Tryz.prog) (t := 3) (by kernel_rfl)
  have hb0 : bytesP Tryz.prog 3 = 8 := by kernel_rfl
  have hs0 : szP Tryz.prog 3 ≠ 0 := by decide +kernel
  by_cases hn : n = 0
  · subst hn
    go_enter Tryz.func171, Tryz.ntmps171
    go_wp2
    go_ret
    exact ⟨[], Moves.refl w, .inl ⟨none, rfl, rfl, rfl⟩, by simp, List.nodup_nil⟩
  · rw [hb0] at hroom
    have hrz := Lib.run_append_nil_zeros (P := Tryz.prog) w 22 3 22 3 it z .i64 .i64 t22 Tryz.underlying3 hi1 hi2 n (by omega) (by rw [hi3]; exact Nat.pos_of_ne_zero hs0) (by omega) (by rw [hi5, hb0]; omega)
    have hrep := zvY (P := Tryz.prog) (te := 3) (e := e) (w := w) (N := N) (n := n) hes (hi4.trans hi3) (by unfold maxLen; omega)
    clear hi4
    generalize z.cells = zc at hrz hrep
    have h1 : ¬ ((n : Int) < 0) := by omega
    have h2 : (n : Int) > 0 := by omega
    have h3 : wrap64 ((n : Int) - 0) = (n : Int) := by unfold wrap64; omega
    have h4 : wrap64 ((n : Int)) = (n : Int) := by unfold wrap64; omega
    go_enter Tryz.func171, Tryz.ntmps171
    go_wp2_with (at_builtin; refine Lib.wpList_append_run _ rfl _ _ _ _ rfl _ _ rfl rfl _ _ hrz ?_)
    go_wp2
    go_ret
    first
    | exact ⟨[w.heap.size], (Moves.drew w).trans (Moves.alloc w.drew _), hrep, by simp, by simp⟩
    | exact ⟨(Moves.alloc w _).trans (Moves.drew _), [w.heap.size], hrep, by simp, by simp⟩
theorem delOK : DelOK Tryz.prog 185 := by
  intro blk cap i d w hH hc hm hi
  obtain ⟨it, z, hi1, hi2, hi3, hi4, hi5⟩ := zgb (P := Tryz.prog) (t := 22) (by kernel_rfl)
  exact Tryz.slices_Delete encS oneSlV (none, 0, 0) Tryz.zeroValue22 it hi1 (hi3.trans (by kernel_rfl)) blk 0 cap i (i + 1) d w hH hc hm (by omega) hi
theorem extD : ∀ (g : (E1.ps 185).den → Option (E1.Ret 185)), E1.ext 185 = some g → ∀ (x : (E1.ps 185).den) (yz : E1.Ret 185), g x = some yz → ∀ (w : World) (N : Nat → Prop) (us : List Value) (G : List Nat), RepAs (memOf w) N (E1.ps 185) x us G → G.Nodup → (∀ k ∈ G, k < w.heap.size ∧ ¬ N k) → (∀ k, N k → k < w.heap.size) → E1.tabs w N →
    Calls E1.P (rl 185) us.toArray w (Post fun v w' => ∃ N' rs G1 G2, Done E1 185 yz.1 yz.2 us G N w v w' N' rs G1 G2) := by
  intro g hg
  obtain rfl : g = deG := by
    have : some deG = some g := hg
    exact (Option.some.inj this).symm
  intro x yz hx w N us G hr hnd hG hN hT
  obtain ⟨xs, i, j, ⟨⟩⟩ := (x : List (List Int) × Int × Int × Unit)
  have hx' : (if 0 ≤ i ∧ j = i + 1 ∧ j ≤ (List.length xs : Int) then some ((xs.take (Int.toNat i) ++ xs.drop (Int.toNat j), ()), ()) else none : Option ((List (List Int) × Unit) × Unit)) = some yz := hx
  split at hx'
  · rename_i hcond
    obtain rfl := Option.some.inj hx'
    refine Calls.mono (show Calls E1.P (rl 185) us.toArray w _ from zzo delOK hcond.1 hcond.2.1 hcond.2.2 hr hG hN) (fun e w' hp => ?_)
    cases e with
    | returned v =>
      obtain ⟨hmv, hlt, hrep, hsz, u1, u2, u3, rfl⟩ := hp
      exact ⟨N, [v], G, [], hmv, fun _ h => h, fun _ h => .inl h, hlt, rfl, hrep, rfl, by simpa using hnd, fun k hk => ⟨by have := hG k (by simpa using hk); rw [hsz]; exact this.1, (hG k (by simpa using hk)).2, .inl (by simpa using hk)⟩⟩
    | _ => exact hp.elim
  · cases hx'
theorem extAll : ∀ (f : Nat) (g : (E1.ps f).den → Option (E1.Ret f)), E1.ext f = some g → ∀ (x : (E1.ps f).den) (yz : E1.Ret f), g x = some yz → ∀ (w : World) (N : Nat → Prop) (us : List Value) (G : List Nat), RepAs (memOf w) N (E1.ps f) x us G → G.Nodup → (∀ k ∈ G, k < w.heap.size ∧ ¬ N k) → (∀ k, N k → k < w.heap.size) → E1.tabs w N →
    Calls E1.P (rl f) us.toArray w (Post fun v w' => ∃ N' rs G1 G2, Done E1 f yz.1 yz.2 us G N w v w' N' rs G1 G2) := by
  intro f g hg
  by_cases h123 : f = 123
  · subst h123; exact extW g hg
  by_cases h185 : f = 185
  · subst h185; exact extD g hg
  have : E1.ext f = none := (dif_neg h123).trans ((dif_neg h185).trans (rfl))
  rw [this] at hg; cases hg
theorem extOk : ExtSound E1 := by
  refine ⟨⟨fun f t h => ?_, fun f t h => ?_⟩, extAll⟩
  · have h' : List.lookup f [(71, 22), (120, 42), (183, 126)] = some t := h
    by_cases h71 : f = 71
    · subst h71
      obtain rfl : 22 = t := by simpa [List.lookup] using h'
      exact clone71
    by_cases h120 : f = 120
    · subst h120
      obtain rfl : 42 = t := by simpa [List.lookup] using h'
      exact clone120
    by_cases h183 : f = 183
    · subst h183
      obtain rfl : 126 = t := by simpa [List.lookup] using h'
      exact clone183
    exact absurd h' (by simp [List.lookup, beq_false_of_ne h71, beq_false_of_ne h120, beq_false_of_ne h183])
  · have h' : List.lookup f [(150, 42), (171, 22)] = some t := h
    by_cases h150 : f = 150
    · subst h150
      obtain rfl : 42 = t := by simpa [List.lookup] using h'
      exact grow150
    by_cases h171 : f = 171
    · subst h171
      obtain rfl : 22 = t := by simpa [List.lookup] using h'
      exact grow171
    exact absurd h' (by simp [List.lookup, beq_false_of_ne h150, beq_false_of_ne h171])
end Go.Proofs.YtkgpnekonnopgaaGreatIr.Ev