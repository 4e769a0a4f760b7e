/- The evaluator: every operation that it answers is sound. -/
import Derived.Test.YtofkhmedmeihiaaPnEvS
namespace Go.Proofs.YtofkhmedmeihiaaPn.Ev
open Go

section
variable {E : Env} {O : Oracle E} {X : Ctx} {st : St} {R : Type} {K : Eff → Option R} {r : R}

theorem exOp_good (hC : CSound E O.C) (o : Oper) (h : exOp E O o st K = some r) : ∃ e, K e = some r ∧ Good E X o st e := by
  cases ho : o.op with
  | move x => exact good_move (.inl ho) h
  | assign x => exact good_move (.inr ho) h
  | pick c a b => exact good_pick ho h
  | alloc t => exact good_alloc ho h
  | box t x => exact good_box ho h
  | build t ps => exact good_build ho h
  | buildSlice t n ps => exact good_buildSlice ho h
  | load t x => exact good_load ho h
  | store t x y => exact good_store ho h
  | nilCheck x => exact good_nilCheck ho h
  | binOp op t x y yt => exact good_binOp ho h
  | unOp op t x => exact good_unOp ho h
  | convert s d x => exact good_convert ho h
  | makeFunc f fi ca => exact good_makeFunc ho h
  | makeSlice t l c => exact good_makeSlice ho h
  | slice t x lo hi mx => exact good_slice ho h
  | fieldAddr t x i => exact good_fieldAddr ho h
  | field t x i => exact good_field ho h
  | indexAddr t x i => exact good_indexAddr ho h
  | index t x i => exact good_index ho h
  | extract x i => exact good_extract ho h
  | makeMap t r => exact good_makeMap ho h
  | lookup t x i ok => exact good_lookup ho h
  | mapUpdate t x i y => exact good_mapUpdate ho h
  | call ca =>
    cases hca : ca.callee with
    | value g => exact good_call hC ho hca h
    | invoke a b => simp only [exOp, ho, hca] at h; cases h
    | builtin b =>
      match hargs : ca.args.toList with
      | [] => simp only [exOp, ho, hca, hargs] at h; cases b <;> cases h
      | [x] =>
        cases b with
        | len => exact good_len ho hca hargs h
        | _ => simp only [exOp, ho, hca, hargs] at h; cases h
      | [x, y] =>
        cases b with
        | min => exact good_minmax ho (.inl hca) hargs h
        | max => exact good_minmax ho (.inr hca) hargs h
        | append => exact good_append ho hca hargs h
        | _ => simp only [exOp, ho, hca, hargs] at h; cases h
      | x :: y :: z :: w => simp only [exOp, ho, hca, hargs] at h; cases b <;> cases h
  | _ => simp only [exOp, ho] at h; cases h
end

end Go.Proofs.YtofkhmedmeihiaaPn.Ev
