/- A text of its own: Wt; no condition but those that each theorem names. -/
import Derived.Test.YtenknihdnkiplaaGreatSsEnv
import Derived.Test.YtenknihdnkiplaaGreatSsEvWt
import Derived.Test.YtenknihdnkiplaaGreatSsEvDe
import Derived.KernelRfl
namespace Go.Proofs.YtenknihdnkiplaaGreatSs.Ev
open Go
set_option maxRecDepth 100000
set_option autoImplicit false
set_option linter.unusedVariables false
noncomputable def E0 : Env := { E1 with ext := fun _ => none, clone := fun _ => none, grow := fun _ => none, tab := [] }
noncomputable abbrev M0 : Oracle E0 := Lm E0
noncomputable def zhb (O : Oracle E0) (a0 : List (Bool × (List Int) × (List Int) × Unit)) (a1 : List Value) : Option (((List (Bool × Value × Value × Unit)) × Unit) × (Unit)) := O.C 38654705816 (a0, a1, ())
noncomputable abbrev zml : LoopH := { key := 116, ht := [1, 5, 8, 9, 10], hτ := (fs [(.sl .opq), (.own (.agg (fs [.bool, .opq, .opq]))), (.sl (.agg (fs [.bool, (.sl (.int .i64)), (.sl (.int .i64))]))), (.int .i64), (.int .i64)]), ex := 0, ot := [5], oτ := (fs [(.own (.agg (fs [.bool, .opq, .opq])))]) }
noncomputable def zmu : Code := Code.part (bodyOf 152) [1, 1, 0, 1, 0, 0]
noncomputable def zb5 (O : Oracle E0) (a0 : List Value) (a1 : List (Bool × Value × Value × Unit)) (a2 : List (Bool × (List Int) × (List Int) × Unit)) (a3 : Int) (a4 : Int) : Option (((List (Bool × Value × Value × Unit)) × Unit) ⊕ (((List (Bool × Value × Value × Unit)) × Unit) × (Unit))) := O.L 38654705816 zml zmu (a0, a1, a2, a3, a4, ())
noncomputable def zcX (O : Oracle E0) (a0 : List Value) (a1 : List (Bool × Value × Value × Unit)) (a2 : List (Bool × (List Int) × (List Int) × Unit)) (a3 : Int) (a4 : Int) : Option (((List (Bool × Value × Value × Unit)) × Unit) ⊕ (((List (Bool × Value × Value × Unit)) × Unit) × (Unit))) :=
  (if (decide (a4 < a3)) = true then ((idx a2 a4).bind fun x1 => ((idx a0 (IntKind.i64.wrap ((2 : Int) * a4))).bind fun x2 => ((idx a0 (IntKind.i64.wrap ((IntKind.i64.wrap ((2 : Int) * a4)) + (1 : Int)))).bind fun x3 => (if (List.length a1 + List.length ([(x1.1, x2, x3, ())] : List (Bool × Value × Value × Unit))) * 56 ≤ 140737488355328 then (zb5 O a0 (a1 ++ ([(x1.1, x2, x3, ())] : List (Bool × Value × Value × Unit))) a2 a3 (IntKind.i64.wrap (a4 + (1 : Int)))) else none)))) else (some (.inl (a1, ()))))
theorem zh5 (a0) (a1) (a2) (a3) (a4) {r} (h : zcX M0 a0 a1 a2 a3 a4 = some r) : zb5 M0 a0 a1 a2 a3 a4 = some r := fixL (E := E0) ((fun O => (by kernel_rfl : zb5 (Φ E0 O) a0 a1 a2 a3 a4 = zcX O a0 a1 a2 a3 a4)) M0) h
noncomputable def zhm (O : Oracle E0) (a0 : List (Bool × (List Int) × (List Int) × Unit)) (a1 : List Value) : Option (((List (Bool × Value × Value × Unit)) × Unit) × (Unit)) :=
  ((zb5 O a1 [] a0 (List.length a0 : Int) (0 : Int)).bind (Sum.elim (fun y1 => (some ((y1.1, ()), ()))) (fun r2 => (some r2))))
theorem zou (a0) (a1) {r} (h : zhm M0 a0 a1 = some r) : zhb M0 a0 a1 = some r := fixC (E := E0) ((fun O => (by kernel_rfl : zhb (Φ E0 O) a0 a1 = zhm O a0 a1)) M0) h
theorem zuw {x : Int} (h : -9223372036854775808 ≤ x) (k : x < 9223372036854775808) : IntKind.i64.wrap x = x := by
  simp only [IntKind.wrap, IntKind.signed, IntKind.bits]
  simp
  omega
theorem zzd (vs : List Value) (c : List CL) (hc : c.length ≤ 1000000) (hl : 2 * c.length ≤ vs.length) : ∀ k i : Nat, i + k = c.length → ∀ o : List (Bool × Value × Value × Unit), o.length = i → zb5 M0 vs o c c.length i = some (.inl (o ++ wtZ (c.drop i) (vs.drop (2 * i)), ())) := by
  intro k
  induction k with
  | zero =>
    intro i hi o ho
    obtain rfl : i = c.length := by omega
    exact zh5 _ _ _ _ _ (by simp [zcX, wtZ])
  | succ k ih =>
    intro i hi o ho
    have h1 : i < c.length := by omega
    have h2 : 2 * i < vs.length := by omega
    have h3 : 2 * i + 1 < vs.length := by omega
    apply zh5
    simp only [zcX]
    rw [if_pos (by simpa using h1)]
    rw [zuw (x := 2 * (i : Int)) (by omega) (by omega), show (2 * (i : Int)) = ((2 * i : Nat) : Int) by omega, zuw (x := ((2 * i : Nat) : Int) + 1) (by omega) (by omega), show ((2 * i : Nat) : Int) + 1 = ((2 * i + 1 : Nat) : Int) by omega, zuw (x := (i : Int) + 1) (by omega) (by omega)]
    have i1 : idx c (i : Int) = some c[i] := by simp [idx, h1]
    have i2 : idx vs ((2 * i : Nat) : Int) = some vs[2 * i] := by simp only [idx]; rw [if_pos (by omega), Int.toNat_natCast, List.getElem?_eq_getElem h2]
    have i3 : idx vs ((2 * i + 1 : Nat) : Int) = some vs[2 * i + 1] := by simp only [idx]; rw [if_pos (by omega), Int.toNat_natCast, List.getElem?_eq_getElem h3]
    rw [i1, i2, i3]
    simp only [Option.bind_some]
    rw [if_pos (by simp; omega), show (i : Int) + 1 = ((i + 1 : Nat) : Int) by omega, ih (i + 1) (by omega) _ (by simp [ho])]
    rw [List.drop_eq_getElem_cons h1, List.drop_eq_getElem_cons h2, List.drop_eq_getElem_cons h3]
    simp only [wtZ, List.append_assoc, List.singleton_append]
    rw [show 2 * i + 1 + 1 = 2 * (i + 1) by omega]
theorem wq (c : List CL) (vs : List Value) (hc : c.length ≤ 1000000) (hl : 2 * c.length ≤ vs.length) : zhb M0 c vs = some ((wtZ c vs, ()), ()) := by
  apply zou
  have := zzd vs c hc hl c.length 0 (by omega) [] rfl
  rw [show ((0 : Nat) : Int) = 0 from rfl] at this
  simp only [zhm, this, Option.bind_some, Sum.elim_inl, List.nil_append, List.drop_zero, Nat.mul_zero]
theorem extOk0 : ExtSound E0 := ⟨⟨fun f t h => (by cases h), fun f t h => (by cases h)⟩, fun f g h => (by cases h)⟩
theorem mixed0 : E0.P.follows .mixedOrders = true := by kernel_rfl
theorem qcalls : QCalls Tryz.prog 152 := by
  intro c vs w N us hc hl hr hN
  obtain ⟨n, hn⟩ := Lm_C.1 (wq c vs hc hl : (Lm E0).C 38654705816 (c, vs, ()) = some ((wtZ c vs, ()), ()))
  have h0 := (zwn extOk0 mixed0 n).1.2 38654705816 (c, vs, ()) ((wtZ c vs, ()), ()) (hn n (Nat.le_refl _)) w N us [] hr List.nodup_nil (by simp) hN (Env.tabs_nil rfl w N)
  refine Calls.mono (show Calls Tryz.prog 152 us.toArray w _ from h0) (fun e w' hp => ?_)
  cases e with
  | returned v =>
    obtain ⟨N', rs, G1, G2, D⟩ := hp
    have hb : RepBack (memOf w') N' (E0.io 38654705816) (E0.ps 38654705816) () us G2 := D.back
    have hn1 := D.nod
    have ho := D.own
    exact ⟨N', rs, G1, D.mv, D.up, fun k hk => by
      rcases D.new k hk with h | h | h
      · exact .inl h
      · simp at h
      · exact .inr h, D.lt, D.val, D.rep, (List.nodup_append.1 hn1).1, fun k hk => by
      have h1 := ho k (List.mem_append_left _ hk)
      refine ⟨h1.1, h1.2.1, ?_⟩
      rcases h1.2.2 with h | h
      · simp at h
      · exact h⟩
  | _ => exact hp.elim
theorem extW : ∀ (g : (E1.ps 152).den → Option (E1.Ret 152)), E1.ext 152 = some g → ∀ (x : (E1.ps 152).den) (yz : E1.Ret 152), g x = some yz → ∀ (w : World) (N : Nat → Prop) (us : List Value) (G : List Nat), RepAs (memOf w) N (E1.ps 152) x us G → G.Nodup → (∀ k ∈ G, k < w.heap.size ∧ ¬ N k) → (∀ k, N k → k < w.heap.size) → E1.tabs w N →
    Calls E1.P (rl 152) us.toArray w (Post fun v w' => ∃ N' rs G1 G2, Done E1 152 yz.1 yz.2 us G N w v w' N' rs G1 G2) := by
  intro g hg
  obtain rfl : g = wtG := by
    have : some wtG = some g := hg
    exact (Option.some.inj this).symm
  intro x yz hx w N us G hr hnd hG hN _
  obtain ⟨c, xs, ⟨⟩⟩ := (x : List CL × List (List Int) × Unit)
  have hx' : (if c.length ≤ 1000000 ∧ 2 * c.length ≤ xs.length then some ((wtZ c xs, ()), ()) else none : Option ((List CL × Unit) × Unit)) = some yz := hx
  split at hx'
  · rename_i hcond
    obtain rfl := Option.some.inj hx'
    refine Calls.mono (show Calls E1.P (rl 152) us.toArray w _ from zx6 qcalls c xs hcond.1 hcond.2 w N us G hr hnd hG hN) (fun e w' hp => ?_)
    cases e with
    | returned v =>
      obtain ⟨N', rs, G1, k1, k2, k3, k4, k5, k6, k7, k8⟩ := hp
      have hl : ∃ u1 u2, us = [u1, u2] := by
        match us, hr with
        | [u1, u2], _ => exact ⟨u1, u2, rfl⟩
      obtain ⟨u1, u2, rfl⟩ := hl
      exact ⟨N', rs, G1, [], k1, k2, k3, k4, k5, k6, rfl, by simpa using k7, by simpa using k8⟩
    | _ => exact hp.elim
  · cases hx'
end Go.Proofs.YtenknihdnkiplaaGreatSs.Ev
