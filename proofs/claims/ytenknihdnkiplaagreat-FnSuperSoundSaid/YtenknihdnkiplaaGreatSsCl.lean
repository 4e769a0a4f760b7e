/- A text of its own: Cl; no condition but those that each theorem names. -/
import Derived.Test.YtenknihdnkiplaaGreatSsEnv
import Derived.Test.YtenknihdnkiplaaGreatSsEvDe
import Derived.Shelf.RegionOpenPlain
import Derived.Test.YtenknihdnkiplaaGreatSsWt
import Derived.Test.YtenknihdnkiplaaGreatSsSh
namespace Go.Proofs.YtenknihdnkiplaaGreatSs.Ev
open Go Go.Lib Go.RowKit Go.Proofs
set_option maxHeartbeats 2000000 in
set_option maxRecDepth 100000 in
theorem clone173 : CloneOK Tryz.prog 173 24 := by
  intro te hte w N e xs v himm hes hN hE hroom
  have t24 := Tryz.underlying24
  have hte0 : elemP Tryz.prog 24 = some 3 := by kernel_rfl
  obtain rfl : te = 3 := Option.some.inj (hte.symm.trans hte0)
  obtain ⟨v', w', hrun, hfin⟩ := zsJ himm t24 (by kernel_rfl) (by decide +kernel) hes hN hE hroom
  obtain ⟨a, cap, es, rfl, hcap, hlen, hel, hpt⟩ := hE
  have q24 : ∀ (w : World) (a : Option Addr) (n c n' c' : Nat), (binOp .eql 24 (.slice a n c) (.slice none n' c')).run Tryz.prog w = .ok (.bool a.isNone) w := fun w a n c n' c' => Lib.run_eql_slice_nil w _ _ a n c n' c' Tryz.underlying24
  have u24 : ∀ w, Sem.run Tryz.prog (underlying 24) w = .ok (TypeDesc.slice 3) w := run_underlying t24
  cases a with
  | none =>
    have hx : xs = [] := Classical.byContradiction fun hn => by
      obtain ⟨b, off, h, _⟩ := hpt hn
      cases h
    subst hx
    go_enter Tryz.func173, Tryz.ntmps173
    go_wp2
    go_ret
    exact ⟨[], Moves.refl w, .inl ⟨none, rfl, rfl, rfl⟩, by simp, List.nodup_nil⟩
  | some a =>
    go_enter Tryz.func173, Tryz.ntmps173
    go_wp2_with (at_builtin; refine zrd rfl _ _ 24 rfl rfl rfl hrun ?_)
    go_wp2
    go_ret
    exact hfin
set_option maxHeartbeats 2000000 in
set_option maxRecDepth 100000 in
theorem clone288 : CloneOK Tryz.prog 288 35 := by
  intro te hte w N e xs v himm hes hN hE hroom
  have t35 := Tryz.underlying35
  have hte0 : elemP Tryz.prog 35 = some 24 := by kernel_rfl
  obtain rfl : te = 24 := Option.some.inj (hte.symm.trans hte0)
  obtain ⟨v', w', hrun, hfin⟩ := zsJ himm t35 (by kernel_rfl) (by decide +kernel) hes hN hE hroom
  obtain ⟨a, cap, es, rfl, hcap, hlen, hel, hpt⟩ := hE
  have q35 : ∀ (w : World) (a : Option Addr) (n c n' c' : Nat), (binOp .eql 35 (.slice a n c) (.slice none n' c')).run Tryz.prog w = .ok (.bool a.isNone) w := fun w a n c n' c' => Lib.run_eql_slice_nil w _ _ a n c n' c' Tryz.underlying35
  have u35 : ∀ w, Sem.run Tryz.prog (underlying 35) w = .ok (TypeDesc.slice 24) w := run_underlying t35
  cases a with
  | none =>
    have hx : xs = [] := Classical.byContradiction fun hn => by
      obtain ⟨b, off, h, _⟩ := hpt hn
      cases h
    subst hx
    go_enter Tryz.func288, Tryz.ntmps288
    go_wp2
    go_ret
    exact ⟨[], Moves.refl w, .inl ⟨none, rfl, rfl, rfl⟩, by simp, List.nodup_nil⟩
  | some a =>
    go_enter Tryz.func288, Tryz.ntmps288
    go_wp2_with (at_builtin; refine zrd rfl _ _ 35 rfl rfl rfl hrun ?_)
    go_wp2
    go_ret
    exact hfin
set_option maxHeartbeats 2000000 in
set_option maxRecDepth 100000 in
theorem grow201 : GrowOK Tryz.prog 201 27 := by
  intro te hte w N e n himm hes hroom
  have t27 := Tryz.underlying27
  have hte0 : elemP Tryz.prog 27 = some 109 := by kernel_rfl
  obtain rfl : te = 109 := Option.some.inj (hte.symm.trans hte0)
  obtain ⟨it, z, hi1, hi2, hi3, hi4, hi5⟩ := zeQ (P := Tryz.prog) (t := 109) (by kernel_rfl)
  have hb0 : bytesP Tryz.prog 109 = 56 := by kernel_rfl
  have hs0 : szP Tryz.prog 109 ≠ 0 := by decide +kernel
  by_cases hn : n = 0
  · subst hn
    go_enter Tryz.func201, Tryz.ntmps201
    go_wp2
    go_ret
    exact ⟨[], Moves.refl w, .inl ⟨none, rfl, rfl, rfl⟩, by simp, List.nodup_nil⟩
  · rw [hb0] at hroom
    have hrz := Lib.run_append_nil_zeros (P := Tryz.prog) w 27 3 27 109 it z .i64 .i64 t27 Tryz.underlying3 hi1 hi2 n (by omega) (by rw [hi3]; exact Nat.pos_of_ne_zero hs0) (by omega) (by rw [hi5, hb0]; omega)
    have hrep := ztV (P := Tryz.prog) (te := 109) (e := e) (w := w) (N := N) (n := n) hes (hi4.trans hi3) (by unfold maxLen; omega)
    clear hi4
    generalize z.cells = zc at hrz hrep
    have h1 : ¬ ((n : Int) < 0) := by omega
    have h2 : (n : Int) > 0 := by omega
    have h3 : wrap64 ((n : Int) - 0) = (n : Int) := by unfold wrap64; omega
    have h4 : wrap64 ((n : Int)) = (n : Int) := by unfold wrap64; omega
    go_enter Tryz.func201, Tryz.ntmps201
    go_wp2_with (at_builtin; refine Lib.wpList_append_run _ rfl _ _ _ _ rfl _ _ rfl rfl _ _ hrz ?_)
    go_wp2
    go_ret
    first
    | exact ⟨[w.heap.size], (Moves.drew w).trans (Moves.alloc w.drew _), hrep, by simp, by simp⟩
    | exact ⟨(Moves.alloc w _).trans (Moves.drew _), [w.heap.size], hrep, by simp, by simp⟩
set_option maxHeartbeats 2000000 in
set_option maxRecDepth 100000 in
theorem grow255 : GrowOK Tryz.prog 255 24 := by
  intro te hte w N e n himm hes hroom
  have t24 := Tryz.underlying24
  have hte0 : elemP Tryz.prog 24 = some 3 := by kernel_rfl
  obtain rfl : te = 3 := Option.some.inj (hte.symm.trans hte0)
  obtain ⟨it, z, hi1, hi2, hi3, hi4, hi5⟩ := zeQ (P := Tryz.prog) (t := 3) (by kernel_rfl)
  have hb0 : bytesP Tryz.prog 3 = 8 := by kernel_rfl
  have hs0 : szP Tryz.prog 3 ≠ 0 := by decide +kernel
  by_cases hn : n = 0
  · subst hn
    go_enter Tryz.func255, Tryz.ntmps255
    go_wp2
    go_ret
    exact ⟨[], Moves.refl w, .inl ⟨none, rfl, rfl, rfl⟩, by simp, List.nodup_nil⟩
  · rw [hb0] at hroom
    have hrz := Lib.run_append_nil_zeros (P := Tryz.prog) w 24 3 24 3 it z .i64 .i64 t24 Tryz.underlying3 hi1 hi2 n (by omega) (by rw [hi3]; exact Nat.pos_of_ne_zero hs0) (by omega) (by rw [hi5, hb0]; omega)
    have hrep := ztV (P := Tryz.prog) (te := 3) (e := e) (w := w) (N := N) (n := n) hes (hi4.trans hi3) (by unfold maxLen; omega)
    clear hi4
    generalize z.cells = zc at hrz hrep
    have h1 : ¬ ((n : Int) < 0) := by omega
    have h2 : (n : Int) > 0 := by omega
    have h3 : wrap64 ((n : Int) - 0) = (n : Int) := by unfold wrap64; omega
    have h4 : wrap64 ((n : Int)) = (n : Int) := by unfold wrap64; omega
    go_enter Tryz.func255, Tryz.ntmps255
    go_wp2_with (at_builtin; refine Lib.wpList_append_run _ rfl _ _ _ _ rfl _ _ rfl rfl _ _ hrz ?_)
    go_wp2
    go_ret
    first
    | exact ⟨[w.heap.size], (Moves.drew w).trans (Moves.alloc w.drew _), hrep, by simp, by simp⟩
    | exact ⟨(Moves.alloc w _).trans (Moves.drew _), [w.heap.size], hrep, by simp, by simp⟩
theorem delOK : DelOK Tryz.prog 290 := by
  intro blk cap i d w hH hc hm hi
  obtain ⟨it, z, hi1, hi2, hi3, hi4, hi5⟩ := zeQ (P := Tryz.prog) (t := 24) (by kernel_rfl)
  exact Tryz.slices_Delete_f290 encS oneSlV (none, 0, 0) Tryz.zeroValue24 it hi1 (hi3.trans (by kernel_rfl)) blk 0 cap i (i + 1) d w hH hc hm (by omega) hi
theorem extD : ∀ (g : (E1.ps 290).den → Option (E1.Ret 290)), E1.ext 290 = some g → ∀ (x : (E1.ps 290).den) (yz : E1.Ret 290), g x = some yz → ∀ (w : World) (N : Nat → Prop) (us : List Value) (G : List Nat), RepAs (memOf w) N (E1.ps 290) x us G → G.Nodup → (∀ k ∈ G, k < w.heap.size ∧ ¬ N k) → (∀ k, N k → k < w.heap.size) → E1.tabs w N →
    Calls E1.P (rl 290) us.toArray w (Post fun v w' => ∃ N' rs G1 G2, Done E1 290 yz.1 yz.2 us G N w v w' N' rs G1 G2) := by
  intro g hg
  obtain rfl : g = deG := by
    have : some deG = some g := hg
    exact (Option.some.inj this).symm
  intro x yz hx w N us G hr hnd hG hN hT
  obtain ⟨xs, i, j, ⟨⟩⟩ := (x : List (List Int) × Int × Int × Unit)
  have hx' : (if 0 ≤ i ∧ j = i + 1 ∧ j ≤ (List.length xs : Int) then some ((xs.take (Int.toNat i) ++ xs.drop (Int.toNat j), ()), ()) else none : Option ((List (List Int) × Unit) × Unit)) = some yz := hx
  split at hx'
  · rename_i hcond
    obtain rfl := Option.some.inj hx'
    refine Calls.mono (show Calls E1.P (rl 290) us.toArray w _ from zw5 delOK hcond.1 hcond.2.1 hcond.2.2 hr hG hN) (fun e w' hp => ?_)
    cases e with
    | returned v =>
      obtain ⟨hmv, hlt, hrep, hsz, u1, u2, u3, rfl⟩ := hp
      exact ⟨N, [v], G, [], hmv, fun _ h => h, fun _ h => .inl h, hlt, rfl, hrep, rfl, by simpa using hnd, fun k hk => ⟨by have := hG k (by simpa using hk); rw [hsz]; exact this.1, (hG k (by simpa using hk)).2, .inl (by simpa using hk)⟩⟩
    | _ => exact hp.elim
  · cases hx'
theorem extAll : ∀ (f : Nat) (g : (E1.ps f).den → Option (E1.Ret f)), E1.ext f = some g → ∀ (x : (E1.ps f).den) (yz : E1.Ret f), g x = some yz → ∀ (w : World) (N : Nat → Prop) (us : List Value) (G : List Nat), RepAs (memOf w) N (E1.ps f) x us G → G.Nodup → (∀ k ∈ G, k < w.heap.size ∧ ¬ N k) → (∀ k, N k → k < w.heap.size) → E1.tabs w N →
    Calls E1.P (rl f) us.toArray w (Post fun v w' => ∃ N' rs G1 G2, Done E1 f yz.1 yz.2 us G N w v w' N' rs G1 G2) := by
  intro f g hg
  by_cases h152 : f = 152
  · subst h152; exact extW g hg
  by_cases h290 : f = 290
  · subst h290; exact extD g hg
  have : E1.ext f = none := (dif_neg h152).trans ((dif_neg h290).trans (rfl))
  rw [this] at hg; cases hg
theorem extOk : ExtSound E1 := by
  refine ⟨⟨fun f t h => ?_, fun f t h => ?_⟩, extAll⟩
  · have h' : List.lookup f [(173, 24), (288, 35)] = some t := h
    by_cases h173 : f = 173
    · subst h173
      obtain rfl : 24 = t := by simpa [List.lookup] using h'
      exact clone173
    by_cases h288 : f = 288
    · subst h288
      obtain rfl : 35 = t := by simpa [List.lookup] using h'
      exact clone288
    exact absurd h' (by simp [List.lookup, beq_false_of_ne h173, beq_false_of_ne h288])
  · have h' : List.lookup f [(201, 27), (255, 24)] = some t := h
    by_cases h201 : f = 201
    · subst h201
      obtain rfl : 27 = t := by simpa [List.lookup] using h'
      exact grow201
    by_cases h255 : f = 255
    · subst h255
      obtain rfl : 24 = t := by simpa [List.lookup] using h'
      exact grow255
    exact absurd h' (by simp [List.lookup, beq_false_of_ne h201, beq_false_of_ne h255])
end Go.Proofs.YtenknihdnkiplaaGreatSs.Ev