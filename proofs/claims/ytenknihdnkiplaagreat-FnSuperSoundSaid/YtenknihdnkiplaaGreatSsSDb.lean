/- A text of its own: SDb; no condition but those that each theorem names. -/
import Derived.Test.YtenknihdnkiplaaGreatSsQJz
namespace Go.Proofs.YtenknihdnkiplaaGreatSs.Ev
open Go
set_option autoImplicit false
set_option linter.unusedVariables false
set_option linter.unusedSimpArgs false
theorem zz7 {L : List Int} (hL : Up L) : ∀ v ∈ L, v < far L := by
 intro v hv
 have h0 : 0 < L.length := List.length_pos_iff.2 (fun e => by rw [e] at hv; cases hv)
 obtain ⟨u, e1, e2, _⟩ := zpt h0
 rw [e2]
 obtain ⟨i, hi, rfl⟩ := List.mem_iff_getElem.1 hv
 obtain ⟨hl, rfl⟩ := List.getElem?_eq_some_iff.1 e1
 by_cases h : i = L.length - 1
 ·subst h; omega
 ·have := List.pairwise_iff_getElem.1 hL i (L.length - 1) hi hl (by omega)
  omega
theorem zv2 (c d : List TLit) : ∀ v ∈ upTo (inV (tms c)), v ∉ upTo (inV (tms (apartC c d))) := by
 intro v hv hq
 have h1 := zz7 (zpw (inV (tms c))) v hv
 have hb := (zpu (L := upTo (inV (tms c))) (fun v hv => by have := zdg.1 hv; omega)).1
 obtain ⟨v0, _, h2⟩ := zdg.1 hq
 simp only [inV, List.any_eq_true, decide_eq_true_eq] at h2
 obtain ⟨t, ht, hn⟩ := h2
 obtain ⟨x, hx, e⟩ := zbh.1 ht
 obtain ⟨y, hy, rfl⟩ := List.mem_map.1 hx
 have key : ∀ u : List Int, -1 - v ∈ u.map (shn (far (upTo (inV (tms c))))) → False := by
  intro u hu
  obtain ⟨m, _, e⟩ := List.mem_map.1 hu
  unfold shn at e
  split at e <;> omega
 rcases e with rfl | rfl
 ·exact key _ hn
 ·exact key _ hn
theorem zw3 (v : Int) (a : List Int) (ha : a.length ≤ 1000) (hv : v ∉ a) : ∀ k i : Nat, i + k = a.length → zg3 M v a a.length i = some (.inl ()) := by
 intro k
 induction k with
 | zero =>
  intro i hi
  obtain rfl : i = a.length := by omega
  apply zns
  simp only [zhX]
  rw [if_neg (by simp)]
 | succ k ih =>
  intro i hi
  have h1 : i < a.length := by omega
  apply zns
  simp only [zhX]
  rw [if_pos (by simpa using h1), ze h1, za (by omega)]
  simp only [Option.bind_some]
  rw [if_neg (by simp only [beq_iff_eq]; intro e; exact hv (e ▸ List.getElem_mem h1))]
  exact ih (i + 1) (by omega)
theorem zy5 (v : Int) (a : List Int) (ha : a.length ≤ 1000) (hv : v ∉ a) : zlC M a v = some ((false, ()), ()) := by
 apply zv3
 have := zw3 v a ha hv a.length 0 (by omega)
 rw [show ((0 : Nat) : Int) = 0 from rfl] at this
 simp only [zn3, this, Option.bind_some, Sum.elim_inl]
theorem zxM (q p : List Int) (hp : p.length ≤ 1000) (hq : q.length ≤ 1000) (h : ∀ v ∈ p, v ∉ q) : ∀ k i : Nat, i + k = p.length → zaG M q p p.length i = some (.inl ()) := by
 intro k
 induction k with
 | zero =>
  intro i hi
  obtain rfl : i = p.length := by omega
  apply zga
  simp only [zbD]
  rw [if_neg (by simp)]
 | succ k ih =>
  intro i hi
  have h1 : i < p.length := by omega
  apply zga
  simp only [zbD]
  rw [if_pos (by simpa using h1), if_pos (by omega), Int.toNat_natCast, List.getElem?_eq_getElem h1, za (by omega)]
  simp only [Option.bind_some, zy5 p[i] q hq (h _ (List.getElem_mem h1))]
  rw [if_neg (by simp)]
  exact ih (i + 1) (by omega)
theorem zxc (s : TSign) (hs : s.1.length ≤ 1048576) (c d : List TLit) (hg : gS s.1 = true) (hc : clOK s.1 c = true) (hd : clOK s.1 d = true) (w : TWay) {r : (List TLit × Int × Unit) × Unit} (h : zae M s c d w = some r) : zdj M s c d w = some ((r.1.1, r.1.2.1, true, ()), ()) := by
 have c1 := (zbj.1 hc).1
 have d1 := (zbj.1 hd).1
 obtain ⟨i, sc, j, ot, p0, ⟨⟩⟩ := w
 apply zgZ
 simp only [zdk, zg, zax s hs c (by omega), hg, hc, Option.bind_some, zeL s hg d (by omega), hd, h]; rfl
theorem zxC (s : TSign) (hs : s.1.length ≤ 1048576) (c d : List TLit) (o : List TWay) (ho : o.length ≤ 40000) (h : o = [] ∨ gS s.1 = true ∧ clOK s.1 c = true ∧ clOK s.1 d = true ∧ Dn s c d o) : ∀ k i : Nat, i + k = o.length → za3 M s c d o o o.length i = some (.inl (s, c, d, ())) := by
 intro k
 induction k with
 | zero =>
  intro i hi
  obtain rfl : i = o.length := by omega
  apply zg0
  simp only [zcb]
  rw [if_neg (by simp)]
 | succ k ih =>
  intro i hi
  have h1 : i < o.length := by omega
  rcases h with rfl | ⟨hg, hc, hd, hn⟩
  ·simp at h1
  obtain ⟨r, r1, r2⟩ := hn _ (List.getElem_mem h1)
  have r3 := zxc s hs c d hg hc hd o[i] r1
  apply zg0
  simp only [zcb]
  rw [if_pos (by simpa using h1), if_pos (by omega), Int.toNat_natCast, List.getElem?_eq_getElem h1, za (by omega)]
  simp only [Option.bind_some]
  have e : (o[i].1, o[i].2.1, o[i].2.2.1, o[i].2.2.2.1, o[i].2.2.2.2.1, ()) = o[i] := rfl
  rw [e, zg, r3]
  simp only [Option.bind_some]
  rw [if_pos (by omega)]
  simp only [beq_self_eq_true, Bool.and_true, Bool.not_true, Bool.false_eq_true, if_false, r2, bne_self_eq_false]
  rw [if_pos (by omega)]
  exact ih (i + 1) (by omega)
theorem ztY (s : TSign) (hs : s.1.length ≤ 1048576) (hg : gS s.1 = true) (c : List TLit) (hc : clOK s.1 c = true) : zed M s c = some ((upTo (inV (tms c)), true, ()), ()) := by
 have c1 := (zbj.1 hc).1
 obtain ⟨t1, t2⟩ := p_cv hc
 apply zs2
 simp only [zkU, zg, zax s hs c (by omega), hg, hc, t1, t2, Option.bind_some]; rfl
noncomputable def ssT (b : List Int) : Option ((Bool × Unit) × Unit) :=
 ((zdd M b).bind fun r15 => ((zf1 M (r15.1.1.1, ()) r15.1.2.1 r15.1.2.2.1).bind fun r16 => ((zd7 M (r15.1.1.1, ()) r15.1.2.1 r15.1.2.2.1).bind fun r17 => (if (!(r16.1.2.1 == r17.1.2.1)) = true then (some ((false, ()), ())) else (if ((r16.1.1.length : Int) != (r17.1.1.length : Int)) = true then (some ((false, ()), ())) else ((za3 M (r15.1.1.1, ()) r15.1.2.1 r15.1.2.2.1 r16.1.1 r17.1.1 (r16.1.1.length : Int) (0 : Int)).bind (Sum.elim (fun y18 => ((zc8 M (y18.1.1, ()) y18.2.1 y18.2.2.1).bind fun r20 => ((zc2 M (y18.1.1, ()) y18.2.1 y18.2.2.1).bind fun r21 => (if (!(r20.1.2.1 == r21.1.2.1)) = true then (some ((false, ()), ())) else ((zd4 M r20.1.1 r21.1.1).bind fun r22 => (if (!r22.1.1) = true then (some ((false, ()), ())) else (((if r20.1.2.1 = true then ((zed M (y18.1.1, ()) y18.2.1).bind fun r24 => ((zed M (y18.1.1, ()) r20.1.1).bind fun r25 => (if (!r24.1.2.1) = true then ((some ((false, ()), ())).map .inr) else (if (!r25.1.2.1) = true then ((some ((false, ()), ())).map .inr) else ((zaG M r25.1.1 r24.1.1 (r24.1.1.length : Int) (0 : Int)).bind (Sum.elim (fun y26 => (some (.inl ()))) (fun r27 => ((some r27).map .inr)))))))) else (some (.inl ()))) : Option (Unit ⊕ (Bool × Unit) × (Unit))).bind (Sum.elim (fun q23 => (some ((true, ()), ()))) (fun r => some r))))))))) (fun r19 => (some r19)))))))))
theorem zAj (b : List Int) (bb : isBytes b) : ssT b = some ((true, ()), ()) := by
 obtain ⟨⟨⟨⟨t, ⟨⟩⟩, e, f, ⟨⟩⟩, ⟨⟩⟩, d1, d2, d3, d4⟩ := zu6 bb
 simp only at d2 d3 d4
 have ht := zqG d2
 obtain ⟨s1, s2⟩ := znk d3.1 d3.2
 obtain ⟨s3, s4⟩ := znk d4.1 d4.2
 obtain ⟨r, w1, w2, w3, w4⟩ := zqa (t, ()) ht e f s1 s2 s3 s4
 have L := zxC (t, ()) ht e f r.1.1 w3 w4 r.1.1.length 0 (by omega)
 rw [show ((0 : Nat) : Int) = 0 from rfl] at L
 obtain ⟨z, z1, z2, z3, z4, z5⟩ := zrb (t, ()) ht e f s1 s2 s3 s4
 unfold ssT
 rw [d1]
 simp only [Option.bind_some, w1, w2, L, Sum.elim_inl, z1, z2, beq_self_eq_true, bne_self_eq_false, Bool.not_true, Bool.false_eq_true, if_false, zrp z.1.1 (by omega) z4]
 cases hz : z.1.2.1 with
 | false => rfl
 | true =>
  obtain ⟨q1, q2, q3, q4, q5⟩ := z5 hz
  have hy : clOK t (apartC e f) = true := zbj.2 ⟨by rw [← q1]; exact z3, List.all_eq_true.1 q5⟩
  have v1 := ztY (t, ()) ht q2 e q3
  have v2 := ztY (t, ()) ht q2 (apartC e f) hy
  have L2 := zxM (upTo (inV (tms (apartC e f)))) (upTo (inV (tms e))) (by have := zkk (inV (tms e)); omega) (by have := zkk (inV (tms (apartC e f))); omega) (zv2 e f) (upTo (inV (tms e))).length 0 (by omega)
  rw [show ((0 : Nat) : Int) = 0 from rfl] at L2
  simp only [if_true, q1, v1, v2, L2, Option.bind_some, Bool.not_true, Bool.false_eq_true, if_false, Sum.elim_inl]
noncomputable def ssM (s : TSign) (c d x : List TLit) (b : List Int) : Option ((List Int × Unit) ⊕ (Bool × Unit) × Unit) :=
 ((zeP M s b).bind fun r7 => ((zaH M s (r7.1.1.1, r7.1.1.2.1, ()) c).bind fun r8 => ((zaH M s (r7.1.1.1, r7.1.1.2.1, ()) d).bind fun r9 => ((zaH M s (r7.1.1.1, r7.1.1.2.1, ()) x).bind fun r10 => (if r8.1.2.1 = true then (if r9.1.2.1 = true then (if r10.1.2.1 = true then (if r8.1.1 = true then (if r9.1.1 = true then (if (!r10.1.1) = true then ((some ((false, ()), ())).map .inr) else (some (.inl (b, ())))) else (some (.inl (b, ())))) else (some (.inl (b, ())))) else (some (.inl (b, ())))) else (some (.inl (b, ())))) else (some (.inl (b, ()))))))))
theorem zAl (s : TSign) (hs : s.1.length ≤ 1048576) (hg : gS s.1 = true) (c d x : List TLit) (hc : c.length ≤ 1048576) (hd : d.length ≤ 1048576) (hx : x.length ≤ 1048576) (b : List Int) (bb : isBytes b) (h : ∀ w : TWorld, wOK s.1 w = true → HOL s.1 w c → HOL s.1 w d → HOL s.1 w x) : ssM s c d x b = some (.inl (b, ())) := by
 obtain ⟨w, w1, w2, w3, w4⟩ := zwz s hg b bb
 have hw : smW w := ⟨by omega, w4⟩
 obtain ⟨b1, o1, e1, k1⟩ := zoX s hs w hw c hc
 obtain ⟨b2, o2, e2, k2⟩ := zoX s hs w hw d hd
 obtain ⟨b3, o3, e3, k3⟩ := zoX s hs w hw x hx
 unfold ssM
 simp only [w1, za8, e1, e2, e3, Option.bind_some]
 cases o1 with
 | false => rfl
 | true =>
 cases o2 with
 | false => rfl
 | true =>
 cases o3 with
 | false => rfl
 | true =>
 cases b1 with
 | false => rfl
 | true =>
 cases b2 with
 | false => rfl
 | true =>
  have := (k3 rfl).2.2.2.2 (h w w2 ((k1 rfl).2.2.2.1 rfl) ((k2 rfl).2.2.2.1 rfl))
  subst this
  rfl
theorem zr2 (a b : List Int) (ha : ∀ x ∈ a, 0 ≤ x ∧ x ≤ 255) (hb : ∀ x ∈ b, 0 ≤ x ∧ x ≤ 255) (la : a.length ≤ 9223372036854775807) (lb : b.length ≤ 9223372036854775807) : zfh M a b = some ((true, ()), ()) := by
 apply zoh
 simp only [zhh, zAc a b la lb, Option.bind_some]
 by_cases hB : (decide (1048576 < a.length) || decide (1048576 - (a.length : Int) < b.length)) = true
 ·rw [if_pos hB]
 ·rw [if_neg hB]
  simp only [Bool.or_eq_true, decide_eq_true_eq, not_or] at hB
  have ba : isBytes a := ⟨by omega, ha⟩
  have bb : isBytes b := ⟨by omega, hb⟩
  obtain ⟨⟨⟨⟨s, ⟨⟩⟩, c, d, w, ⟨⟩⟩, ⟨⟩⟩, d1, d2, d3, d4⟩ := zu0 ba
  simp only at d2 d3 d4
  have hs := zqG d2
  obtain ⟨s1, s2⟩ := znk d3.1 d3.2
  obtain ⟨s3, s4⟩ := znk d4.1 d4.2
  obtain ⟨r, t1, t2, o⟩ := ztz (s, ()) hs c d s1 s2 s3 s4 w
  obtain ⟨o1, o2⟩ := zzt (a := s) (c := c) (d := d) (w := w) (l := r.1.1) (o.imp (fun q => q.1) (fun q => q.2.2.2.2))
  have eW : (w.1, w.2.1, w.2.2.1, w.2.2.2.1, w.2.2.2.2.1, ()) = w := rfl
  rw [d1]
  simp only [Option.bind_some, eW, t1, t2, beq_self_eq_true, bne_self_eq_false, Bool.not_true, Bool.false_eq_true, if_false, zrp r.1.1 (by omega) o2]
  have mid : (if r.1.2.2.1 = true then (if (r.1.2.1 == 0) = true then ssM (s, ()) c d r.1.1 b else (if (r.1.2.1 == 5) = true then ssM (s, ()) c d r.1.1 b else some (.inl (b, ())))) else some (.inl (b, ())) : Option ((List Int × Unit) ⊕ (Bool × Unit) × Unit)) = some (.inl (b, ())) := by
   cases hok : r.1.2.2.1 with
   | false => rfl
   | true =>
    rcases o with ⟨_, q⟩ | ⟨_, hg, hc, hd, out, e, hS⟩
    ·obtain ⟨n0, n5⟩ := q hok
     rw [if_pos rfl, if_neg (by simpa using n0), if_neg (by simpa using n5)]
    ·have key : ssM (s, ()) c d r.1.1 b = some (.inl (b, ())) := by
      refine zAl (s, ()) hs hg c d r.1.1 s1 s3 (by omega) b bb fun w' hw h1 h2 => ?_
      have cx := (zbj.1 hc).2
      have dx := (zbj.1 hd).2
      have hO := zxm hg hw hS cx dx h1 h2
      obtain ⟨_, _, _, _, _, _, _, _, _, _, _, _, _, _, _, _, _, _, _, hl⟩ := hS
      rw [e]
      exact zx5 hg hw hO hl
     rw [if_pos rfl, key]
     split
     ·rfl
     ·split <;> rfl
  have fin := zAj b bb
  unfold ssM at mid
  unfold ssT at fin
  simp only [zg] at mid fin ⊢
  rw [mid]
  simp only [Option.bind_some, Sum.elim_inl]
  exact fin
end Go.Proofs.YtenknihdnkiplaaGreatSs.Ev
