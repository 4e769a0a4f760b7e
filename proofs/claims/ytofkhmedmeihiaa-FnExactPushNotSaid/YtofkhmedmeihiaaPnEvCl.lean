/- What the walk of slices.Clone needs: its append, told. -/
import Derived.Test.YtofkhmedmeihiaaPnEvRow
import Derived.WalkKit
import Derived.Lib.Walk
import Derived.Lib.SliceRun
import Derived.Maps.AppendAt
namespace Go.Proofs.YtofkhmedmeihiaaPn.Ev
open Go Go.RowKit Go.Lib
variable {P : Program}

theorem Els.alloc {w : World} {N : Nat → Prop} {e : Ty} {xs : List e.den} {v : Value} (h : Els (memOf w) N e xs v) (hN : ∀ k, N k → k < w.heap.size) (o : Go.Obj) : Els (memOf (w.alloc o)) N e xs v := by
  obtain ⟨a, cap, es, h1, h2, h3, h4, h5⟩ := h
  refine ⟨a, cap, es, h1, h2, h3, fun i hi hi' => RepT.mono (fun b hb => ⟨hb, memOf_alloc_old w o (hN b hb)⟩) (by simp) (h4 i hi hi'), fun hn => ?_⟩
  obtain ⟨b, off, h6, h7⟩ := h5 hn
  refine ⟨b, off, h6, h7.mono (memOf_alloc_old w o ?_)⟩
  obtain ⟨c, T, fr, h8, _⟩ := h7
  exact (Array.getElem?_eq_some_iff.1 (show w.heap[b]? = some _ from h8)).1

theorem wpList_app {ops : Array Oper} {rest : List Oper} {o : Oper} {a : Act} {w : World} {Q : Exit → Act → World → Prop} (hgd : o.guard = none) (s x : Operand) (t : TypeId)
    (ho : o.op = .call { callee := .builtin .append, args := #[s, x], argTypes := #[t, t] }) {vs vx v' : Value} {w' : World} (hs : a.eval s = vs) (hx : a.eval x = vx)
    (hr : (Builtin.append_ #[t, t] o.type #[vs, vx]).run P w = .ok v' w') (h : wpList P ops Q rest (a.put o.dst v') w') : wpList P ops Q (o :: rest) a w := by
  refine wpList_plain hgd fun K hK => ?_
  unfold Oper.wp execOp
  simp only [ho, resolve, invoke, builtin, Sem.run_bind, Sem.run_pure, Result.andThen_ok, List.map_toArray, List.map_cons, List.map_nil, hs, hx, hr]
  exact hK _ _ h

/-- A slice's copy: what the append to a new empty row leaves. -/
theorem clone_app {t te : TypeId} {e : Ty} (himm : e.isImm = true) (ht : P.underlying t = some (.slice te)) (hz : hasZero P te = true) (hb0 : bytesP P te ≠ 0) (hes : e.sz = szP P te)
    {w : World} {N : Nat → Prop} (hN : ∀ k, N k → k < w.heap.size) {xs : List e.den} {v : Value} (hE : Els (memOf w) N e xs v) (hroom : xs.length * bytesP P te ≤ 140737488355328) :
    ∃ v' w', (Builtin.append_ #[t, t] t #[.slice (some ⟨w.heap.size, 0, none⟩) 0 0, v]).run P (w.alloc (.cells #[] te (0, 0))) = .ok v' w' ∧
      ∃ G', Moves w w' [] ∧ RepT (memOf w') N (.own e) xs [v'] G' ∧ (∀ k ∈ G', w.heap.size ≤ k ∧ k < w'.heap.size) ∧ G'.Nodup := by
  obtain ⟨it, z, hi1, hi2, hi3, hi4, hi5⟩ := hasZero_some hz
  have S : SrcOK P (w.alloc (.cells #[] te (0, 0))) N t e xs v := (hE.alloc hN _).src ht
  obtain ⟨v', w', G', W, hrun, hmv, hW, hr, hG', hnd⟩ := append_row (ty := t) himm ht hi1 hi2 hi4 (by rw [hi5]; exact hb0) (by rw [hes, hi3]) (w := w.alloc (.cells #[] te (0, 0))) (N := N) (xs := []) (v := .slice (some ⟨w.heap.size, 0, none⟩) 0 0) (G := []) (.inl ⟨some ⟨w.heap.size, 0, none⟩, rfl, rfl, rfl⟩) (fun k hk => ⟨by have := hN k hk; simp; omega, by simp⟩) S (by rw [hi5]; simpa using hroom)
  refine ⟨v', w', hrun, G', ?_, by simpa using hr, fun k hk => ?_, hnd⟩
  · have : W = [] := List.eq_nil_iff_forall_not_mem.2 fun k hk => by simpa using hW k hk
    subst this
    exact (Moves.alloc w _).trans hmv
  · rcases hG' k hk with h | h
    · simp at h
    · simp at h; omega

end Go.Proofs.YtofkhmedmeihiaaPn.Ev
