/- The evaluator: operations that reckon. -/
import Derived.Test.YtofkhmedmeihiaaPnEvH
import Derived.Laws.Small
import Derived.MapKept
namespace Go.Proofs.YtofkhmedmeihiaaPn.Ev
open Go

theorem imm_int {m : Mem} {N : Nat → Prop} {s : Sto} {hd : Nat → Value} {k : IntKind} {x : Int} {v : Value} (h : RepC m N s hd (.imm (.int k) x) v) : v = .int k x := by simpa using h.1
theorem imm_bool {m : Mem} {N : Nat → Prop} {s : Sto} {hd : Nat → Value} {x : Bool} {v : Value} (h : RepC m N s hd (.imm .bool x) v) : v = .bool x := by simpa using h.1
theorem imm_str {m : Mem} {N : Nat → Prop} {s : Sto} {hd : Nat → Value} {x : List UInt8} {v : Value} (h : RepC m N s hd (.imm .str x) v) : v = .string ⟨⟨x⟩⟩ := by simpa using h.1

theorem toList_loop (b : ByteArray) (i : Nat) (acc : List UInt8) : ByteArray.toList.loop b i acc = acc.reverse ++ b.data.toList.drop i := by
  fun_induction ByteArray.toList.loop b i acc with
  | case1 i acc h ih =>
    have h' : i < b.data.size := h
    have h2 : b.data.toList.drop i = b.data.toList[i]'(by simpa using h') :: b.data.toList.drop (i + 1) := List.drop_eq_getElem_cons (by simpa using h')
    rw [ih, List.reverse_cons, List.append_assoc, h2]
    congr 1
    show b.data[i]! :: _ = _
    rw [getElem!_pos b.data i h']
    rfl
  | case2 i acc h =>
    have h' : b.data.size ≤ i := Nat.le_of_not_lt h
    rw [List.drop_eq_nil_of_le (by simpa using h'), List.append_nil]

theorem toList_mk (x : List UInt8) : (ByteArray.mk ⟨x⟩).toList = x := by
  show ByteArray.toList.loop _ 0 [] = x
  rw [toList_loop]; rfl

theorem append_mk (x y : List UInt8) : (ByteArray.mk ⟨x⟩) ++ (ByteArray.mk ⟨y⟩) = ByteArray.mk ⟨x ++ y⟩ := by
  apply ByteArray.ext
  rw [ByteArray.data_append]
  simp

theorem size_mk (x : List UInt8) : (ByteArray.mk ⟨x⟩).size = x.length := by simp [ByteArray.size]

theorem extract_mk (x : List UInt8) (l h : Nat) : (ByteArray.mk ⟨x⟩).extract l h = ByteArray.mk ⟨(x.take h).drop l⟩ := by
  apply ByteArray.ext
  rw [ByteArray.data_extract]
  simp [List.extract_toArray, List.drop_take]

section
variable {E : Env} {O : Oracle E} {X : Ctx} {o : Oper} {st : St} {R : Type} {K : Eff → Option R} {r : R}

theorem good_binOp {op : BinOp} {t yt : TypeId} {x y : Operand} (ho : o.op = .binOp op t x y yt) (h : exOp E O o st K = some r) : ∃ e, K e = some r ∧ Good E X o st e := by
  have hx : x ∈ o.op.operands := by rw [ho]; simp [Op.operands]
  have hy : y ∈ o.op.operands := by rw [ho]; simp [Op.operands]
  simp only [exOp, ho] at h
  replace h := one_some h
  obtain ⟨c, hc, h⟩ := h
  replace h := one_some h
  obtain ⟨d, hd, h⟩ := h
  unfold binC at h
  split at h
  · rename_i k u k' v
    have fin : ∀ z : C, (∀ a : Act, a.eval x = .int k u → a.eval y = .int k' v → ∀ w, ∃ q, (execOp a.eval o).run E.P w = .ok (.value q) w ∧ ∀ {m : Mem} {N : Nat → Prop} {s : Sto} {hd : Nat → Value}, RepC m N s hd z q) → Good E X o st { v := .one z, s := st.o, r := [] } := by
      intro z hz
      refine good_two hc hx hd hy fun {a w N s' hd F} hm I h1 h2 => ?_
      obtain ⟨q, h3, h4⟩ := hz a (imm_int h1) (imm_int h2) w
      exact ⟨q, h3, h4⟩
    split at h
    · split at h
      · cases h
      · rename_i hneg
        exact ⟨_, h, fin _ fun a e1 e2 w => ⟨_, by simp [execOp, ho, e1, e2, eqGuard_shl, binOp_shl, Op.shift, hneg] <;> rfl, rfl, rfl⟩⟩
    · split at h
      · cases h
      · rename_i hneg
        exact ⟨_, h, fin _ fun a e1 e2 w => ⟨_, by simp [execOp, ho, e1, e2, eqGuard_shr, binOp_shr, Op.shift, hneg] <;> rfl, rfl, rfl⟩⟩
    · split at h
      · rename_i hk
        subst hk
        unfold binInt at h
        split at h
        · exact ⟨_, h, fin _ fun a e1 e2 w => ⟨_, by simp [execOp, ho, e1, e2, eqGuard_add, binOp_add, Op.intArith], rfl, rfl⟩⟩
        · exact ⟨_, h, fin _ fun a e1 e2 w => ⟨_, by simp [execOp, ho, e1, e2, eqGuard_sub, binOp_sub, Op.intArith], rfl, rfl⟩⟩
        · exact ⟨_, h, fin _ fun a e1 e2 w => ⟨_, by simp [execOp, ho, e1, e2, eqGuard_mul, binOp_mul, Op.intArith], rfl, rfl⟩⟩
        · split at h
          · cases h
          · rename_i h0
            exact ⟨_, h, fin _ fun a e1 e2 w => ⟨_, by simp [execOp, ho, e1, e2, eqGuard_quo, binOp_quo, Op.intDiv, h0], rfl, rfl⟩⟩
        · split at h
          · cases h
          · rename_i h0
            exact ⟨_, h, fin _ fun a e1 e2 w => ⟨_, by simp [execOp, ho, e1, e2, eqGuard_rem, binOp_rem, Op.intDiv, h0], rfl, rfl⟩⟩
        · exact ⟨_, h, fin _ fun a e1 e2 w => ⟨_, by simp [execOp, ho, e1, e2, eqGuard_and, binOp_and, Op.intBits] <;> rfl, rfl, rfl⟩⟩
        · exact ⟨_, h, fin _ fun a e1 e2 w => ⟨_, by simp [execOp, ho, e1, e2, eqGuard_or, binOp_or, Op.intBits] <;> rfl, rfl, rfl⟩⟩
        · exact ⟨_, h, fin _ fun a e1 e2 w => ⟨_, by simp [execOp, ho, e1, e2, eqGuard_xor, binOp_xor, Op.intBits] <;> rfl, rfl, rfl⟩⟩
        · exact ⟨_, h, fin _ fun a e1 e2 w => ⟨_, by simp [execOp, ho, e1, e2, eqGuard_at_int, binOp_eql], rfl, rfl⟩⟩
        · exact ⟨_, h, fin _ fun a e1 e2 w => ⟨_, by simp [execOp, ho, e1, e2, eqGuard_at_int, binOp_neq], rfl, rfl⟩⟩
        · exact ⟨_, h, fin _ fun a e1 e2 w => ⟨_, by simp [execOp, ho, e1, e2, eqGuard_at_int, binOp_lss], rfl, rfl⟩⟩
        · exact ⟨_, h, fin _ fun a e1 e2 w => ⟨_, by simp [execOp, ho, e1, e2, eqGuard_at_int, binOp_leq], rfl, rfl⟩⟩
        · exact ⟨_, h, fin _ fun a e1 e2 w => ⟨_, by simp [execOp, ho, e1, e2, eqGuard_at_int, binOp_gtr], rfl, rfl⟩⟩
        · exact ⟨_, h, fin _ fun a e1 e2 w => ⟨_, by simp [execOp, ho, e1, e2, eqGuard_at_int, binOp_geq], rfl, rfl⟩⟩
        · cases h
      · cases h
  · rename_i u v
    split at h
    · rename_i htb
      have ht : E.P.underlying t = some .bool := by
        unfold isBoolT at htb
        split at htb
        · assumption
        · cases htb
      split at h
      · refine ⟨_, h, good_two hc hx hd hy fun {a w N s' hd F} hm I h1 h2 => ⟨.bool (u == v), ?_, rfl, rfl⟩⟩
        have e1 := imm_bool h1; have e2 := imm_bool h2
        simp [execOp, ho, e1, e2, eqGuard_at_bool, binOp, run_equal_bool _ _ _ _ ht]
      · refine ⟨_, h, good_two hc hx hd hy fun {a w N s' hd F} hm I h1 h2 => ⟨.bool (!(u == v)), ?_, rfl, rfl⟩⟩
        have e1 := imm_bool h1; have e2 := imm_bool h2
        simp [execOp, ho, e1, e2, eqGuard_at_bool, binOp, run_equal_bool _ _ _ _ ht]
      · cases h
    · cases h
  · rename_i u v
    have fin : ∀ z : C, (∀ a : Act, a.eval x = .string ⟨⟨u⟩⟩ → a.eval y = .string ⟨⟨v⟩⟩ → ∀ w, ∃ q, (execOp a.eval o).run E.P w = .ok (.value q) w ∧ ∀ {m : Mem} {N : Nat → Prop} {s : Sto} {hd : Nat → Value}, RepC m N s hd z q) → Good E X o st { v := .one z, s := st.o, r := [] } := by
      intro z hz
      refine good_two hc hx hd hy fun {a w N s' hd F} hm I h1 h2 => ?_
      obtain ⟨q, h3, h4⟩ := hz a (imm_str h1) (imm_str h2) w
      exact ⟨q, h3, h4⟩
    unfold binStr at h
    split at h
    · split at h
      · rename_i hlen
        refine ⟨_, h, fin _ fun a e1 e2 w => ⟨.string ⟨⟨u ++ v⟩⟩, ?_, rfl, rfl⟩⟩
        have hsz : ¬ (9223372036854775807 < ((List.length u : Nat) : Int) + ((List.length v : Nat) : Int)) := by omega
        simp [execOp, ho, e1, e2, eqGuard_at_string, binOp, Op.stringOp, append_mk, size_mk, hsz]
      · cases h
    · exact ⟨_, h, fin _ fun a e1 e2 w => ⟨.bool (u == v), by simp [execOp, ho, e1, e2, eqGuard_at_string, binOp, Op.stringOp, toList_mk], rfl, rfl⟩⟩
    · exact ⟨_, h, fin _ fun a e1 e2 w => ⟨.bool (!(u == v)), by simp [execOp, ho, e1, e2, eqGuard_at_string, binOp, Op.stringOp, toList_mk], rfl, rfl⟩⟩
    · exact ⟨_, h, fin _ fun a e1 e2 w => ⟨.bool (Op.bytesLess u v), by simp [execOp, ho, e1, e2, eqGuard_at_string, binOp, Op.stringOp, toList_mk], rfl, rfl⟩⟩
    · exact ⟨_, h, fin _ fun a e1 e2 w => ⟨.bool (Op.bytesLess u v || u == v), by simp [execOp, ho, e1, e2, eqGuard_at_string, binOp, Op.stringOp, toList_mk], rfl, rfl⟩⟩
    · exact ⟨_, h, fin _ fun a e1 e2 w => ⟨.bool (!(Op.bytesLess u v || u == v)), by simp [execOp, ho, e1, e2, eqGuard_at_string, binOp, Op.stringOp, toList_mk], rfl, rfl⟩⟩
    · exact ⟨_, h, fin _ fun a e1 e2 w => ⟨.bool (!Op.bytesLess u v), by simp [execOp, ho, e1, e2, eqGuard_at_string, binOp, Op.stringOp, toList_mk], rfl, rfl⟩⟩
    · cases h
  · cases h

/-- A slice that is read. -/
theorem getSl_ok {c : C} {s : Sto} {K : (e : Ty) → List e.den → List Nat → Option R} (h : getSl c s K = some r) :
    ∃ e xs m, K e xs m = some r ∧ ∀ s' : Sto, (∀ i ∈ m, s' i = s i) → ∀ {mem : Mem} {N : Nat → Prop} {hd : Nat → Value} {F : Nat → List Nat} {size : Nat}, SInv mem N s' hd F size → ∀ v, RepC mem N s' hd c v →
      ∃ N', (e.isImm = true → RepT mem N' (.sl e) xs [v] []) ∧ (∀ k, N k → N' k) ∧ (∀ k, N' k → N k ∨ ∃ i ∈ m, k ∈ F i) ∧ ∃ a cap, v = .slice a (List.length xs) cap := by
  have slice_len : ∀ {mem : Mem} {N' : Nat → Prop} {e : Ty} {xs : List e.den} {v : Value}, RepT mem N' (.sl e) xs [v] [] → ∃ a cap, v = .slice a (List.length xs) cap := by
    intro mem N' e xs v hh
    obtain ⟨_, a, cap, es, e1, _⟩ := hh
    exact ⟨a, cap, by simpa using e1⟩
  have sub_len : ∀ {v hdv : Value} {a : Option Addr} {n cap sz lo hi : Nat}, hdv = .slice a n cap → v = subV hdv sz lo hi → ∃ a' cap', v = .slice a' (hi - lo) cap' := by
    intro v hdv a n cap sz lo hi h1 h2
    subst h1; exact ⟨_, _, h2⟩
  cases c with
  | imm τ x =>
    cases τ with
    | sl e =>
      refine ⟨e, x, [], h, fun s' _ mem N hd F size I v hv => ⟨N, fun _ => hv, fun _ h => h, fun _ h => .inl h, slice_len hv⟩⟩
    | _ => cases h
  | own id ver =>
    simp only [getSl] at h
    split at h
    · rename_i v e xs hs
      split at h
      · rename_i hv
        subst hv
        refine ⟨e, xs, [id], h, fun s' hs' mem N hd F size I u hu => ?_⟩
        have hid := hs' id (by simp); rw [hs] at hid
        have hob := I.obj id; rw [hid] at hob
        have e1 := RepC.own_hd hu hid rfl
        subst e1
        exact ⟨fun k => N k ∨ k ∈ F id, fun he => RepT.read0 he (fun b hb => .inl hb) (fun k hk => .inr hk) hob, fun _ h => .inl h, fun k hk => hk.imp (fun h => h) (fun h => ⟨id, by simp, h⟩), RepT.own_len hob⟩
      · cases h
    · rename_i v e xs hs
      split at h
      · rename_i hv
        subst hv
        refine ⟨e, xs, [id], h, fun s' hs' mem N hd F size I u hu => ?_⟩
        have hid := hs' id (by simp); rw [hs] at hid
        have hob := I.obj id; rw [hid] at hob
        have e1 := RepC.own_hd hu hid rfl
        subst e1
        exact ⟨N, fun _ => hob.2, fun _ h => h, fun _ h => .inl h, slice_len hob.2⟩
      · cases h
    · cases h
  | sub id ver lo hi =>
    simp only [getSl] at h
    split at h
    · rename_i v e xs hs
      split at h
      · rename_i hv
        subst hv
        refine ⟨e, _, [id], h, fun s' hs' mem N hd F size I u hu => ?_⟩
        have hid := hs' id (by simp); rw [hs] at hid
        have hob := I.obj id; rw [hid] at hob
        obtain ⟨e1, e2, e3⟩ := RepC.sub_hd hu hid rfl
        obtain ⟨a, cap, hl⟩ := RepT.own_len hob
        have hle : List.length ((xs.take hi).drop lo) = hi - lo := by
          have e3' : hi ≤ List.length xs := e3
          rw [List.length_drop, List.length_take]; omega
        refine ⟨fun k => N k ∨ k ∈ F id, fun he => ?_, fun _ h => .inl h, fun k hk => hk.imp (fun h => h) (fun h => ⟨id, by simp, h⟩), ?_⟩
        · have := RepT.read0 (N' := fun k => N k ∨ k ∈ F id) he (fun b hb => .inl hb) (fun k hk => .inr hk) hob
          rw [e1]; exact RepT.slice this e2 e3
        · rw [hle]; exact sub_len hl e1
      · cases h
    · rename_i v e xs hs
      split at h
      · rename_i hv
        subst hv
        refine ⟨e, _, [id], h, fun s' hs' mem N hd F size I u hu => ?_⟩
        have hid := hs' id (by simp); rw [hs] at hid
        have hob := I.obj id; rw [hid] at hob
        obtain ⟨e1, e2, e3⟩ := RepC.sub_hd hu hid rfl
        have hr := RepT.slice hob.2 e2 e3
        subst e1
        exact ⟨N, fun _ => hr, fun _ h => h, fun _ h => .inl h, slice_len hr⟩
      · cases h
    · cases h
  | _ => cases h

theorem run_len_slice' {P : Program} {w : World} {ts : Array TypeId} {t : TypeId} {te : TypeId} (h0 : ts[0]? = some t) (h : P.underlying t = some (.slice te)) (ty : TypeId) (a : Option Addr) (n c : Nat) : (Builtin.len_ ts ty #[.slice a n c]).run P w = .ok (.int .i64 n) w := by
  simp [Builtin.len_, h0, run_underlying h, goInt]

theorem good_len {ca : Call} {x : Operand} (ho : o.op = .call ca) (hca : ca.callee = .builtin .len) (hargs : ca.args.toList = [x]) (h : exOp E O o st K = some r) : ∃ e, K e = some r ∧ Good E X o st e := by
  have hargs' : ca.args = #[x] := by rw [← Array.toArray_toList (xs := ca.args), hargs]
  have hx : x ∈ o.op.operands := by rw [ho]; simp [Op.operands, Call.operands, hca, hargs']
  simp only [exOp, ho, hca, hargs] at h
  replace h := one_some h
  obtain ⟨c, hc, h⟩ := h
  have hty : ∀ d, ca.argTypes0 E.P = some d → ∃ t, ca.argTypes[0]? = some t ∧ E.P.underlying t = some d := by
    intro d hd
    unfold Go.Call.argTypes0 at hd
    exact Option.bind_eq_some_iff.1 hd
  unfold lenC at h
  split at h
  · rename_i ht
    obtain ⟨t, h0, hu⟩ := hty _ ht
    split at h
    · rename_i y
      refine ⟨_, h, good_one hc hx fun {a w N s' hd F} hm I hv => ⟨.int .i64 (List.length y : Nat), ?_, rfl, rfl⟩⟩
      have e1 := imm_str hv
      simp [execOp, ho, resolve, hca, hargs', invoke, builtin, Builtin.len_, h0, run_underlying hu, e1, goInt, size_mk]
    · cases h
  · rename_i te ht
    obtain ⟨t, h0, hu⟩ := hty _ ht
    split at h
    · refine ⟨_, h, good_one hc hx fun {a w N s' hd F} hm I hv => ?_⟩
      obtain ⟨a', e1⟩ := hv
      exact ⟨.int .i64 (0 : Nat), by simp [execOp, ho, resolve, hca, hargs', invoke, builtin, e1, run_len_slice' h0 hu], rfl, rfl⟩
    · obtain ⟨e, xs, m, h, hg⟩ := getSl_ok h
      refine ⟨_, h, good_one hc hx fun {a w N s' hd F} hm I hv => ?_⟩
      obtain ⟨N', _, _, _, a', cap, e1⟩ := hg s' hm I _ hv
      exact ⟨.int .i64 (List.length xs : Nat), by simp [execOp, ho, resolve, hca, hargs', invoke, builtin, e1, run_len_slice' h0 hu], rfl, rfl⟩
  · rename_i ht
    obtain ⟨t, h0, hu⟩ := hty _ ht
    split at h
    · rename_i id ver
      split at h
      · rename_i v τ xs hs
        split at h
        · rename_i hv'
          subst hv'
          refine ⟨_, h, good_one hc hx fun {a w N s' hd F} hm I hv => ?_⟩
          have hid := hm id (by simp); rw [hs] at hid
          have hob := I.obj id; rw [hid] at hob
          have e0 : a.eval x = hd id := hv.2.2 (by rw [hid]) (by rw [hid]; rfl)
          obtain ⟨g, es, clock, e1, e2, e3, _, _⟩ := hob
          have e1' : hd id = .map (some g) := by simpa using e1
          rw [e1'] at e0
          have hg : w.heap[g]? = some (.map es clock) := e2
          exact ⟨.int .i64 (List.length xs : Nat), by simp [execOp, ho, resolve, hca, hargs', invoke, builtin, Builtin.len_, h0, run_underlying hu, e0, MapKept.run_getObj_map hg, goInt, e3], rfl, rfl⟩
        · cases h
      · cases h
    · cases h
  · cases h

theorem good_minmax {ca : Call} {x y : Operand} (ho : o.op = .call ca) (hca : ca.callee = .builtin .min ∨ ca.callee = .builtin .max) (hargs : ca.args.toList = [x, y]) (h : exOp E O o st K = some r) : ∃ e, K e = some r ∧ Good E X o st e := by
  have hargs' : ca.args = #[x, y] := by rw [← Array.toArray_toList (xs := ca.args), hargs]
  have hx : x ∈ o.op.operands := by rw [ho]; rcases hca with hca | hca <;> simp [Op.operands, Call.operands, hca, hargs']
  have hy : y ∈ o.op.operands := by rw [ho]; rcases hca with hca | hca <;> simp [Op.operands, Call.operands, hca, hargs']
  rcases hca with hca | hca
  all_goals
    simp only [exOp, ho, hca, hargs] at h
    replace h := one_some h
    obtain ⟨c, hc, h⟩ := h
    replace h := one_some h
    obtain ⟨d, hd, h⟩ := h
    split at h
    · refine ⟨_, h, good_two hc hx hd hy fun {a w N s' hd F} hm I h1 h2 => ⟨.int _ _, ?_, rfl, rfl⟩⟩
      have e1 := imm_int h1; have e2 := imm_int h2
      simp [execOp, ho, resolve, hca, hargs', invoke, builtin, Builtin.min_, Builtin.max_, Builtin.min2, Builtin.max2, e1, e2]
    · cases h

theorem good_index {t : TypeId} {x i : Operand} (ho : o.op = .index t x i) (h : exOp E O o st K = some r) : ∃ e, K e = some r ∧ Good E X o st e := by
  have hx : x ∈ o.op.operands := by rw [ho]; simp [Op.operands]
  have hi : i ∈ o.op.operands := by rw [ho]; simp [Op.operands]
  simp only [exOp, ho] at h
  replace h := one_some h
  obtain ⟨c, hc, h⟩ := h
  split at h
  · rename_i s
    replace h := one_some h
    obtain ⟨d, hd, h⟩ := h
    split at h
    · rename_i k j
      split at h
      · rename_i hu
        obtain ⟨b, hb, h⟩ := Option.bind_eq_some_iff.1 h
        refine ⟨_, h, good_two hc hx hd hi fun {a w N s' hd F} hm I h1 h2 => ⟨.int .u8 (b.toNat : Nat), ?_, rfl, rfl⟩⟩
        have e1 := imm_str h1; have e2 := imm_int h2
        unfold idx at hb
        split at hb
        · rename_i h0
          have hg : (ByteArray.mk ⟨s⟩)[Int.toNat j]? = some b := by
            obtain ⟨hlt, hg⟩ := List.getElem?_eq_some_iff.1 hb
            have hs : Int.toNat j < (ByteArray.mk ⟨s⟩).size := by rw [size_mk]; exact hlt
            have hp : (ByteArray.mk ⟨s⟩)[Int.toNat j]? = some ((ByteArray.mk ⟨s⟩)[Int.toNat j]'hs) := getElem?_pos (ByteArray.mk ⟨s⟩) _ hs
            rw [hp]
            exact congrArg some hg
          simp [execOp, ho, Instr.index, run_underlying hu, e1, e2, asIntOf, h0, hg]
        · cases hb
      · cases h
    · cases h
  · cases h
end

end Go.Proofs.YtofkhmedmeihiaaPn.Ev
