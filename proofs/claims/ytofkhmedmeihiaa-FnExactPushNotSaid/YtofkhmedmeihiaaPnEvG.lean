/- The evaluator: the invariant of a call, and what an operation must show. -/
import Derived.Test.YtofkhmedmeihiaaPnEvF
import Derived.Laws.Slices
import Derived.Laws.MakeOwn
import Derived.Laws.BytesArg
namespace Go.Proofs.YtofkhmedmeihiaaPn.Ev
open Go

/-- Where a call began: the world, what it may read, what it owns, and the arguments that go back. -/
structure Ctx where
  w0 : World
  N0 : Nat → Prop
  F0 : List Nat
  nt : Nat
  io : List Nat
  av : Nat → Value

structure Fr (X : Ctx) (w : World) (N : Nat → Prop) (F : Nat → List Nat) : Prop where
  os : w.os = X.w0.os
  tape : w.tape = X.w0.tape
  output : w.output = X.w0.output
  size : X.w0.heap.size ≤ w.heap.size
  block : ∀ k, k < X.w0.heap.size → k ∉ X.F0 → w.heap[k]? = X.w0.heap[k]?
  up : ∀ k, X.N0 k → N k
  new : ∀ k, N k → X.N0 k ∨ X.w0.heap.size ≤ k ∨ k ∈ X.F0
  own : ∀ i k, k ∈ F i → X.w0.heap.size ≤ k ∨ k ∈ X.F0

structure InvD (X : Ctx) (st : St) (a : Act) (w : World) (N : Nat → Prop) (hd : Nat → Value) (F : Nat → List Nat) : Prop where
  s : SInv (memOf w) N st.o hd F w.heap.size
  t : ∀ t, RepV (memOf w) N st.o hd (st.t t) (a.tmps.getD t undef)
  defers : a.defers = []
  size : a.tmps.size = X.nt
  io : ∀ j ∈ X.io, a.tmps.getD j undef = X.av j
  fr : Fr X w N F

def Inv (X : Ctx) (st : St) (a : Act) (w : World) : Prop := ∃ N hd F, InvD X st a w N hd F

/-- How the world may go on under one operation: old blocks but those of 'W' stay. -/
structure Moves (w w' : World) (W : List Nat) : Prop where
  os : w'.os = w.os
  tape : w'.tape = w.tape
  output : w'.output = w.output
  size : w.heap.size ≤ w'.heap.size
  block : ∀ k, k < w.heap.size → k ∉ W → w'.heap[k]? = w.heap[k]?

theorem Moves.refl (w : World) : Moves w w [] := ⟨rfl, rfl, rfl, Nat.le_refl _, fun _ _ _ => rfl⟩
theorem Moves.alloc (w : World) (o : Go.Obj) : Moves w (w.alloc o) [] := ⟨rfl, rfl, rfl, by simp, fun k hk _ => heap_alloc_old w o k hk⟩
theorem Moves.trans {w w1 w2 : World} {W : List Nat} (h1 : Moves w w1 W) (h2 : Moves w1 w2 W) : Moves w w2 W :=
  ⟨h2.os.trans h1.os, h2.tape.trans h1.tape, h2.output.trans h1.output, Nat.le_trans h1.size h2.size, fun k hk hW => (h2.block k (Nat.lt_of_lt_of_le hk h1.size) hW).trans (h1.block k hk hW)⟩
theorem Moves.weaken {w w1 : World} {W W' : List Nat} (h1 : Moves w w1 W) (h : ∀ k ∈ W, k ∈ W') : Moves w w1 W' :=
  ⟨h1.os, h1.tape, h1.output, h1.size, fun k hk hW => h1.block k hk (fun h' => hW (h k h'))⟩
theorem Moves.drew (w : World) : Moves w w.drew [] := ⟨rfl, rfl, rfl, Nat.le_refl _, fun _ _ _ => rfl⟩

theorem Fr.move {X : Ctx} {w w' : World} {N N' : Nat → Prop} {F F' : Nat → List Nat} {W : List Nat} (h : Fr X w N F) (hm : Moves w w' W) (hW : ∀ k ∈ W, ∃ i, k ∈ F i) (hup : ∀ k, N k → N' k)
    (hnew : ∀ k, N' k → N k ∨ (∃ i, k ∈ F i) ∨ w.heap.size ≤ k) (hown : ∀ i k, k ∈ F' i → (∃ j, k ∈ F j) ∨ w.heap.size ≤ k) : Fr X w' N' F' where
  os := hm.os.trans h.os
  tape := hm.tape.trans h.tape
  output := hm.output.trans h.output
  size := Nat.le_trans h.size hm.size
  block := fun k hk hF => by
    refine (hm.block k (Nat.lt_of_lt_of_le hk h.size) (fun hkW => ?_)).trans (h.block k hk hF)
    obtain ⟨i, hi⟩ := hW k hkW
    rcases h.own i k hi with h' | h'
    · omega
    · exact hF h'
  up := fun k hk => hup k (h.up k hk)
  new := fun k hk => by
    rcases hnew k hk with h' | ⟨i, h'⟩ | h'
    · exact h.new k h'
    · exact .inr (h.own i k h')
    · exact .inr (.inl (Nat.le_trans h.size h'))
  own := fun i k hk => by
    rcases hown i k hk with ⟨j, h'⟩ | h'
    · exact h.own j k h'
    · exact .inl (Nat.le_trans h.size h')

def dstOK (X : Ctx) (d : Option Nat) : Prop := ∀ t, d = some t → t < X.nt ∧ t ∉ X.io

theorem put_getD (a : Act) (d : Nat) (v : Value) (h : d < a.tmps.size) (t : Nat) : (a.put (some d) v).tmps.getD t undef = if t = d then v else a.tmps.getD t undef := by
  simp only [Act.put, Array.getD_eq_getD_getElem?, Array.getElem?_setIfInBounds]
  by_cases e : t = d
  · subst e; simp [h]
  · rw [if_neg (fun h => e h.symm), if_neg e]

theorem put_size (a : Act) (d : Option Nat) (v : Value) : (a.put d v).tmps.size = a.tmps.size := by cases d <;> simp [Act.put]
theorem put_defers (a : Act) (d : Option Nat) (v : Value) : (a.put d v).defers = a.defers := by cases d <;> rfl

/-- The state behind an operation. -/
theorem InvD.put {X : Ctx} {st : St} {a : Act} {w w' : World} {N N' : Nat → Prop} {hd hd' : Nat → Value} {F F' : Nat → List Nat} (I : InvD X st a w N hd F) {e : Eff} {d : Option Nat} (hdst : dstOK X d) {u : Value} {s' : Sto}
    (hs : (st.app d e).o = s') (I' : SInv (memOf w') N' s' hd' F' w'.heap.size) (hN : ∀ b, N b → N' b ∧ memOf w' b = memOf w b) (g : Goes st.o s' hd hd') (fr : Fr X w' N' F') (hv : RepV (memOf w') N' s' hd' e.v u) :
    InvD X (st.app d e) (a.put d u) w' N' hd' F' where
  s := by rw [hs]; exact I'
  t := fun t => by
    rw [hs]
    have ht := RepV.goes hN g (I.t t)
    cases d with
    | none => exact ht
    | some d =>
      rw [put_getD a d u (by rw [I.size]; exact (hdst d rfl).1)]
      show RepV _ _ _ _ (if t = d then e.v else st.t t) _
      by_cases h : t = d
      · rw [if_pos h, if_pos h]; exact hv
      · rw [if_neg h, if_neg h]; exact ht
  defers := by rw [put_defers]; exact I.defers
  size := by rw [put_size]; exact I.size
  io := fun j hj => by
    cases d with
    | none => exact I.io j hj
    | some d =>
      rw [put_getD a d u (by rw [I.size]; exact (hdst d rfl).1), if_neg (fun h => (hdst d rfl).2 (by rw [← h]; exact hj))]
      exact I.io j hj
  fr := fr

/-- An operation that touches neither objects nor memory. -/
theorem InvD.val {X : Ctx} {st : St} {a : Act} {w : World} {N : Nat → Prop} {hd : Nat → Value} {F : Nat → List Nat} (I : InvD X st a w N hd F) {v : V} {s : Sto} {r : List Nat} {d : Option Nat} (hdst : dstOK X d) {u : Value} (hv : RepV (memOf w) N st.o hd v u) :
    Inv X (st.app d { v, s, r }) (a.put d u) w :=
  ⟨N, hd, F, I.put (s' := st.o) hdst (by funext i; simp [St.app]) I.s (fun _ h => ⟨h, rfl⟩) (Goes.refl _ _) I.fr hv⟩

theorem wp_value {P : Program} {o : Oper} {a : Act} {w w' : World} {K : Act → World → Prop} {Q : Exit → Act → World → Prop} {u : Value} (hr : (execOp a.eval o).run P w = .ok (.value u) w') (h : K (a.put o.dst u) w') : o.wp P a w K Q := by
  unfold Oper.wp; rw [hr]; exact h
theorem wp_skip' {P : Program} {o : Oper} {a : Act} {w w' : World} {K : Act → World → Prop} {Q : Exit → Act → World → Prop} (hr : (execOp a.eval o).run P w = .ok .skip w') (h : K (a.put o.dst undef) w') : o.wp P a w K Q := by
  unfold Oper.wp; rw [hr]; exact h

/-! ### Operands -/
theorem constC_rep {m : Mem} {N : Nat → Prop} {s : Sto} {hd : Nat → Value} {v : Value} {c : C} (h : constC v = some c) : RepC m N s hd c v := by
  unfold constC at h
  split at h
  all_goals first
    | (cases h; done)
    | (obtain rfl := Option.some.inj h
       first
        | exact ⟨rfl, rfl⟩
        | exact ⟨none, rfl⟩
        | exact (rfl : _ = _))

theorem constCs_rep {m : Mem} {N : Nat → Prop} {s : Sto} {hd : Nat → Value} : ∀ {vs : List Value} {cs : List C}, constCs vs = some cs → RepCs m N s hd cs vs
  | [], cs, h => by obtain rfl := Option.some.inj h; trivial
  | v :: vs, cs, h => by
    simp only [constCs] at h
    split at h
    · rename_i c cs' h1 h2
      obtain rfl := Option.some.inj h
      exact ⟨constC_rep h1, constCs_rep h2⟩
    · cases h

theorem constV_rep {m : Mem} {N : Nat → Prop} {s : Sto} {hd : Nat → Value} (v : Value) : RepV m N s hd (constV v) v := by
  by_cases h : ∃ cs, v = .agg cs
  · obtain ⟨cs, rfl⟩ := h
    simp only [constV]
    split
    · rename_i l h; exact ⟨cs.toList, rfl, constCs_rep h⟩
    · trivial
  · have e : constV v = ofC (constC v) := by cases v <;> first | rfl | exact absurd ⟨_, rfl⟩ h
    rw [e]
    cases hc : constC v with
    | none => trivial
    | some c => exact constC_rep hc

theorem InvD.eval {X : Ctx} {st : St} {a : Act} {w : World} {N : Nat → Prop} {hd : Nat → Value} {F : Nat → List Nat} (I : InvD X st a w N hd F) (x : Operand) : RepV (memOf w) N st.o hd (st.eval x) (a.eval x) := by
  cases x with
  | tmp t => exact I.t t
  | const v => exact constV_rep v
  | global g => trivial
  | func f => exact ⟨rfl, [], rfl, rfl, rfl⟩

/-- What an operation must show: over every state that is alike where it looks. -/
def Good (E : Env) (X : Ctx) (o : Oper) (st : St) (e : Eff) : Prop :=
  ∀ st' : St, (∀ x ∈ o.op.operands, st'.eval x = st.eval x) → (∀ i, i ∈ e.w ∨ i ∈ e.r → st'.o i = st.o i) → ∀ a w, Inv X st' a w → dstOK X o.dst → ∀ (K : Act → World → Prop) (Q : Exit → Act → World → Prop),
    (∀ a' w', Inv X (st'.app o.dst e) a' w' → K a' w') → o.wp E.P a w K Q

/-- Values alone: the operation's run is told. -/
theorem Good.val {E : Env} {X : Ctx} {o : Oper} {st : St} {v : V} {r : List Nat} {s : Sto}
    (h : ∀ st' : St, (∀ x ∈ o.op.operands, st'.eval x = st.eval x) → (∀ i ∈ r, st'.o i = st.o i) → ∀ a w N hd F, InvD X st' a w N hd F →
      ∃ u, (execOp a.eval o).run E.P w = .ok (.value u) w ∧ RepV (memOf w) N st'.o hd v u) : Good E X o st { v, s, r } := by
  intro st' h1 h2 a w ⟨N, hd, F, I⟩ hd' K Q hK
  obtain ⟨u, hr, hv⟩ := h st' h1 (fun i hi => h2 i (.inr hi)) a w N hd F I
  exact wp_value hr (hK _ _ (I.val hd' hv))

theorem subV_one {h : Value} (hh : h.oneCell' = true) (sz lo hi : Nat) : (subV h sz lo hi).oneCell' = true := by
  unfold subV; split
  · rfl
  · exact hh

end Go.Proofs.YtofkhmedmeihiaaPn.Ev
