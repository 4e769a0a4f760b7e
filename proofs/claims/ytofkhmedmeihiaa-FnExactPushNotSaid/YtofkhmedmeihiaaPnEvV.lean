/- The evaluator: regions whose order is drawn. -/
import Derived.Test.YtofkhmedmeihiaaPnEvU
namespace Go.Proofs.YtofkhmedmeihiaaPn.Ev
open Go

/-- The state when some of the operations have run. -/
def stS : Nat → List (Oper × Eff) → (Nat → Bool) → St → St
  | _, [], _, st => st
  | k, p :: r, S, st => stS (k + 1) r S (if S k = true then st.app p.1.dst p.2 else st)

theorem stS_none : ∀ (ps : List (Oper × Eff)) (k : Nat) (S : Nat → Bool) (st : St), (∀ i, k ≤ i → i < k + ps.length → S i = false) → stS k ps S st = st
  | [], _, _, _, _ => rfl
  | p :: r, k, S, st, h => by
    have h0 := h k (Nat.le_refl _) (by simp)
    simp only [stS, h0]
    exact stS_none r (k + 1) S st (fun i h1 h2 => h i (by omega) (by simp; omega))

theorem app_t {st : St} {o : Oper} {e : Eff} {t : Nat} (h : o.dst ≠ some t) : (st.app o.dst e).t t = st.t t := by
  unfold St.app
  cases hd : o.dst with
  | none => rfl
  | some d =>
    have : t ≠ d := fun h' => h (by rw [hd, h'])
    simp [this]
theorem app_t_same {st : St} {o : Oper} {e : Eff} {t : Nat} (h : o.dst = some t) : (st.app o.dst e).t t = e.v := by
  rw [h]; simp [St.app]
theorem app_o {st : St} {d : Option Nat} {e : Eff} {i : Nat} (h : i ∉ e.w) : (st.app d e).o i = st.o i := by
  simp [St.app, h]
theorem app_o_same {st : St} {d : Option Nat} {e : Eff} {i : Nat} (h : i ∈ e.w) : (st.app d e).o i = e.s i := by
  simp [St.app, h]

theorem cmpT {t : Nat} {S S' : Nat → Bool} : ∀ (ps : List (Oper × Eff)) (k : Nat) (st st' : St), (∀ i p, ps[i]? = some p → S (k + i) ≠ S' (k + i) → p.1.dst ≠ some t) → st.t t = st'.t t → (stS k ps S st).t t = (stS k ps S' st').t t
  | [], _, _, _, _, h => h
  | p :: r, k, st, st', hd, h => by
    simp only [stS]
    refine cmpT r (k + 1) _ _ (fun i q hq hne => hd (i + 1) q (by simpa using hq) (by rwa [Nat.add_assoc, Nat.add_comm 1] at hne)) ?_
    have h0 := hd 0 p (by simp)
    simp only [Nat.add_zero] at h0
    by_cases hdt : p.1.dst = some t
    · have heq : S k = S' k := Classical.byContradiction fun hne => h0 hne hdt
      rw [heq]
      split
      · rw [app_t_same hdt, app_t_same hdt]
      · exact h
    · split <;> split <;> simp only [app_t hdt, h]

theorem cmpO {x : Nat} {S S' : Nat → Bool} : ∀ (ps : List (Oper × Eff)) (k : Nat) (st st' : St), (∀ i p, ps[i]? = some p → S (k + i) ≠ S' (k + i) → x ∉ p.2.w) → st.o x = st'.o x → (stS k ps S st).o x = (stS k ps S' st').o x
  | [], _, _, _, _, h => h
  | p :: r, k, st, st', hd, h => by
    simp only [stS]
    refine cmpO r (k + 1) _ _ (fun i q hq hne => hd (i + 1) q (by simpa using hq) (by rwa [Nat.add_assoc, Nat.add_comm 1] at hne)) ?_
    have h0 := hd 0 p (by simp)
    simp only [Nat.add_zero] at h0
    by_cases hdt : x ∈ p.2.w
    · have heq : S k = S' k := Classical.byContradiction fun hne => h0 hne hdt
      rw [heq]
      split
      · rw [app_o_same hdt, app_o_same hdt]
      · exact h
    · split <;> split <;> simp only [app_o hdt, h]

theorem lastT {t : Nat} {S : Nat → Bool} : ∀ (ps : List (Oper × Eff)) (k j : Nat) (p : Oper × Eff) (st : St), ps[j]? = some p → S (k + j) = true → p.1.dst = some t → (∀ i q, j < i → ps[i]? = some q → S (k + i) = true → q.1.dst ≠ some t) → (stS k ps S st).t t = p.2.v
  | [], _, _, _, _, h, _, _, _ => by simp at h
  | p :: r, k, 0, p', st, h, hS, hd, hl => by
    simp at h; subst h
    simp only [stS]
    have hS' : S k = true := hS
    rw [if_pos hS']
    have := cmpT (S := S) (S' := fun _ => false) (t := t) r (k + 1) (st.app p.1.dst p.2) (st.app p.1.dst p.2) (fun i q hq hne => by
      have h1 : S (k + (i + 1)) = true := by
        cases hs : S (k + (i + 1)) with
        | true => rfl
        | false => rw [Nat.add_assoc, Nat.add_comm 1 i] at hne; exact absurd hs hne
      exact hl (i + 1) q (by omega) (by simpa using hq) h1) rfl
    rw [this, stS_none r (k + 1) _ _ (fun _ _ _ => rfl), app_t_same hd]
  | p :: r, k, j + 1, p', st, h, hS, hd, hl => by
    simp only [stS]
    exact lastT r (k + 1) j p' _ (by simpa using h) (by rwa [Nat.add_assoc, Nat.add_comm 1 j]) hd (fun i q hi hq hs => hl (i + 1) q (by omega) (by simpa using hq) (by rwa [Nat.add_assoc, Nat.add_comm 1 i] at hs))

theorem lastO {x : Nat} {S : Nat → Bool} : ∀ (ps : List (Oper × Eff)) (k j : Nat) (p : Oper × Eff) (st : St), ps[j]? = some p → S (k + j) = true → x ∈ p.2.w → (∀ i q, j < i → ps[i]? = some q → S (k + i) = true → x ∉ q.2.w) → (stS k ps S st).o x = p.2.s x
  | [], _, _, _, _, h, _, _, _ => by simp at h
  | p :: r, k, 0, p', st, h, hS, hd, hl => by
    simp at h; subst h
    simp only [stS]
    have hS' : S k = true := hS
    rw [if_pos hS']
    have := cmpO (S := S) (S' := fun _ => false) (x := x) r (k + 1) (st.app p.1.dst p.2) (st.app p.1.dst p.2) (fun i q hq hne => by
      have h1 : S (k + (i + 1)) = true := by
        cases hs : S (k + (i + 1)) with
        | true => rfl
        | false => rw [Nat.add_assoc, Nat.add_comm 1 i] at hne; exact absurd hs hne
      exact hl (i + 1) q (by omega) (by simpa using hq) h1) rfl
    rw [this, stS_none r (k + 1) _ _ (fun _ _ _ => rfl), app_o_same hd]
  | p :: r, k, j + 1, p', st, h, hS, hd, hl => by
    simp only [stS]
    exact lastO r (k + 1) j p' _ (by simpa using h) (by rwa [Nat.add_assoc, Nat.add_comm 1 j]) hd (fun i q hi hq hs => hl (i + 1) q (by omega) (by simpa using hq) (by rwa [Nat.add_assoc, Nat.add_comm 1 i] at hs))

/-- One operation more. -/
theorem stS_insert {ps : List (Oper × Eff)} {S S1 : Nat → Bool} {j : Nat} {p : Oper × Eff} {st : St} (hp : ps[j]? = some p) (h1 : S1 j = true) (hS : ∀ i, i ≠ j → S1 i = S i)
    (ht : ∀ i q t, j < i → ps[i]? = some q → S i = true → p.1.dst = some t → q.1.dst ≠ some t) (ho : ∀ i q x, j < i → ps[i]? = some q → S i = true → x ∈ p.2.w → x ∉ q.2.w) :
    stS 0 ps S1 st = (stS 0 ps S st).app p.1.dst p.2 := by
  have e1 : ∀ t, (stS 0 ps S1 st).t t = ((stS 0 ps S st).app p.1.dst p.2).t t := by
    intro t
    by_cases hd : p.1.dst = some t
    · rw [app_t_same hd]
      exact lastT ps 0 j p st hp (by rw [Nat.zero_add]; exact h1) hd (fun i q hi hq hs => ht i q t hi hq (by rw [Nat.zero_add, hS i (by omega)] at hs; exact hs) hd)
    · rw [app_t hd]
      refine cmpT ps 0 st st (fun i q hq hne => ?_) rfl
      rw [Nat.zero_add] at hne
      by_cases hij : i = j
      · subst hij; rw [hp] at hq; injection hq with hq; subst hq; exact hd
      · exact absurd (hS i hij) hne
  have e2 : ∀ x, (stS 0 ps S1 st).o x = ((stS 0 ps S st).app p.1.dst p.2).o x := by
    intro x
    by_cases hd : x ∈ p.2.w
    · rw [app_o_same hd]
      exact lastO ps 0 j p st hp (by rw [Nat.zero_add]; exact h1) hd (fun i q hi hq hs => ho i q x hi hq (by rw [Nat.zero_add, hS i (by omega)] at hs; exact hs) hd)
    · rw [app_o hd]
      refine cmpO ps 0 st st (fun i q hq hne => ?_) rfl
      rw [Nat.zero_add] at hne
      by_cases hij : i = j
      · subst hij; rw [hp] at hq; injection hq with hq; subst hq; exact hd
      · exact absurd (hS i hij) hne
  have f1 := funext e1
  have f2 := funext e2
  cases ha : stS 0 ps S1 st
  cases hb : (stS 0 ps S st).app p.1.dst p.2
  rw [ha, hb] at f1 f2
  simp only at f1 f2
  rw [f1, f2]

section
variable {E : Env} {X : Ctx} {all : Array Oper}

theorem Run.at {ops : List Oper} {st st' : St} {es : List Eff} (h : Run E X all ops st es st') : ∀ (k j : Nat) (p : Oper × Eff), (ops.zip es)[j]? = some p → ∀ S : Nat → Bool, (∀ i, S i = true ↔ i < k + j) → GoodW E X all p.1 (stS k (ops.zip es) S st) p.2 := by
  induction h with
  | nil st => intro k j p hp; simp at hp
  | @cons o r st st' e es h h' ih =>
    intro k j p hp S hS
    cases j with
    | zero =>
      simp at hp; subst hp
      rw [stS_none _ _ _ _ (fun i h1 _ => by
        cases hs : S i with
        | false => rfl
        | true => have := (hS i).1 hs; omega)]
      exact h
    | succ j =>
      have hk : S k = true := (hS k).2 (by omega)
      simp only [List.zip_cons_cons, stS, hk, if_true]
      exact ih (k + 1) j p (by simpa using hp) S (fun i => by rw [hS i]; omega)

theorem Run.last {ops : List Oper} {st st' : St} {es : List Eff} (h : Run E X all ops st es st') : ∀ (k : Nat) (S : Nat → Bool), (∀ i, k ≤ i → i < k + ops.length → S i = true) → stS k (ops.zip es) S st = st' := by
  induction h with
  | nil st => intro k S _; rfl
  | @cons o r st st' e es h h' ih =>
    intro k S hS
    have hk : S k = true := hS k (Nat.le_refl _) (by simp)
    simp only [List.zip_cons_cons, stS, hk, if_true]
    exact ih (k + 1) S (fun i h1 h2 => hS i (by omega) (by simp; omega))
end

/-! ### What stands behind what -/
theorem fold_bit {acc : List Nat} (i : Nat) : ∀ (es : List Edge) (s : Nat), (es.foldl (fun s e => if Region.binds .any e then s ||| 2 ^ e.on ||| acc.getD e.on 0 else s) s).testBit i = true →
    s.testBit i = true ∨ ∃ e ∈ es, Region.binds .any e = true ∧ (i = e.on ∨ (acc.getD e.on 0).testBit i = true)
  | [], s, h => .inl h
  | e :: es, s, h => by
    rw [List.foldl_cons] at h
    rcases fold_bit i es _ h with h1 | ⟨e', h1, h2, h3⟩
    · split at h1
      · rename_i hb
        simp only [Nat.testBit_or, Bool.or_eq_true, Nat.testBit_two_pow, decide_eq_true_eq] at h1
        rcases h1 with (h1 | h1) | h1
        · exact .inl h1
        · exact .inr ⟨e, List.mem_cons_self .., hb, .inl h1.symm⟩
        · exact .inr ⟨e, List.mem_cons_self .., hb, .inr h1⟩
      · exact .inl h1
    · exact .inr ⟨e', List.mem_cons_of_mem _ h1, h2, h3⟩

theorem befores_bit : ∀ (ops : List Oper) (acc : List Nat), ∃ tail, befores ops acc = acc ++ tail ∧ tail.length = ops.length ∧ ∀ (j : Nat) (o : Oper), ops[j]? = some o → ∀ i, (tail.getD j 0).testBit i = true →
    ∃ e ∈ o.after.toList, Region.binds .any e = true ∧ (i = e.on ∨ ((acc ++ tail).getD e.on 0).testBit i = true)
  | [], acc => ⟨[], by simp [befores], rfl, by simp⟩
  | o :: r, acc => by
    obtain ⟨tail, h1, h2, h3⟩ := befores_bit r (acc ++ [o.after.toList.foldl (fun s e => if Region.binds .any e then s ||| 2 ^ e.on ||| acc.getD e.on 0 else s) 0])
    refine ⟨_ :: tail, by rw [befores, h1, List.append_assoc]; rfl, by simp [h2], fun j o' ho i hb => ?_⟩
    cases j with
    | zero =>
      simp at ho; subst ho
      rcases fold_bit i _ _ hb with h | ⟨e, q1, q2, q3⟩
      · simp at h
      · refine ⟨e, q1, q2, q3.imp (fun h => h) (fun h => ?_)⟩
        have hlt : e.on < acc.length := by
          apply Classical.byContradiction
          intro hge
          rw [List.getD_eq_getElem?_getD, List.getElem?_eq_none (by omega)] at h
          simp at h
        rw [List.getD_eq_getElem?_getD, List.getElem?_append_left hlt, ← List.getD_eq_getElem?_getD]
        exact h
    | succ j =>
      obtain ⟨e, q1, q2, q3⟩ := h3 j o' (by simpa using ho) i hb
      refine ⟨e, q1, q2, ?_⟩
      rw [List.append_assoc] at q3
      exact q3

end Go.Proofs.YtofkhmedmeihiaaPn.Ev
