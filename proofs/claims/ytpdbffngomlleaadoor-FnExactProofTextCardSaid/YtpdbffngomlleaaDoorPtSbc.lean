/- Texts laid together: EvSb, Sbc; no condition but those that each theorem names. -/
import Derived.Test.YtpdbffngomlleaaDoorPtEvIt
import Derived.Lib.Builder
import Derived.Lib.UnsafeStr
import Derived.Test.YtpdbffngomlleaaDoorPtEnv
import Derived.Shelf.RegionOpenPlain
import Derived.Laws.Externs
import Derived.KernelRfl
namespace Go.Proofs.YtpdbffngomlleaaDoorPt.Ev
open Go Go.Lib Go.RowKit
def SbBuf (m : Mem) (te : Nat) (x : List UInt8) (v : Value) (F' : List Nat) : Prop :=
 (v = .slice none 0 0 ∧ x = [] ∧ F' = []) ∨ ∃ (k cap : Nat) (c : Array Value), v = .slice (some ⟨k, 0, none⟩) (List.length x) cap ∧ m k = some (.cells c te (0, 0)) ∧ x ≠ [] ∧ c.size = cap ∧ List.length x ≤ cap ∧ cap ≤ maxLen ∧ c.toList.take (List.length x) = List.map (fun b : UInt8 => Value.int .u8 b.toNat) x ∧ F' = [k]
theorem SbBuf.mono {m m' : Mem} {te : Nat} {x : List UInt8} {v : Value} {F : List Nat} (h : SbBuf m te x v F) (hF : ∀ k ∈ F, m' k = m k) : SbBuf m' te x v F := by
 rcases h with h | ⟨k, cap, c, h1, h2, h3, h4, h5, h6, h7, rfl⟩
 ·exact .inl h
 ·exact .inr ⟨k, cap, c, h1, (hF k (by simp)).trans h2, h3, h4, h5, h6, h7, rfl⟩
theorem SbBuf.slice {m : Mem} {te : Nat} {x : List UInt8} {v : Value} {F : List Nat} (h : SbBuf m te x v F) : ∃ a n c, v = .slice a n c := by
 rcases h with ⟨h, _⟩ | ⟨_, _, _, h, _⟩ <;> exact ⟨_, _, _, h⟩
def byteVs (ys : List UInt8) : List Value := ys.map fun b => Value.int .u8 b.toNat
theorem ziM (ys : List UInt8) : ∀ u ∈ byteVs ys, u.oneCell' = true := by
 intro u hu
 obtain ⟨b, _, rfl⟩ := List.mem_map.1 hu
 rfl
theorem zlc {P : Program} {w : World} {t t' te ty : TypeId} {i : TypeInfo} (ht : P.underlying t = some (.slice te)) (hi : P.info? te = some i) (hz : i.zero = some (.int .u8 0)) (hs : i.size = 1) (hb : i.bytes = 1) {x : Value} {ys : List UInt8}
  (S : AppSrc P w t' x i.size ys.length (byteVs ys)) {xs : List UInt8} {v : Value} {F : List Nat} (hv : SbBuf (memOf w) te xs v F) (hl : xs.length + ys.length ≤ 140737488355328) :
  ∃ v' w' F', (Builtin.append_ #[t, t'] ty #[v, x]).run P w = .ok v' w' ∧ SbBuf (memOf w') te (xs ++ ys) v' F' ∧ Moves w w' F ∧ (∀ k ∈ F', k ∈ F ∨ w.heap.size ≤ k) ∧ (∀ k ∈ F', k < w'.heap.size) ∧ F'.Nodup ∧ w.heap.size ≤ w'.heap.size := by
 by_cases hy : ys = []
 ·subst hy
  have hx : (xs ++ [] : List UInt8) = xs := List.append_nil _
  rw [hx]
  refine ⟨v, w, F, ?_, hv, (Moves.refl w).weaken (by simp), fun k hk => .inl hk, fun k hk => ?_, ?_, Nat.le_refl _⟩
  ·rcases hv with ⟨rfl, _⟩ | ⟨k, cap, c, rfl, _, _, _, h5, _⟩
   ·exact zX ht hi S (Nat.le_refl _)
   ·exact zX ht hi S h5
  ·rcases hv with ⟨_, _, rfl⟩ | ⟨k', cap, c, _, h2, _, _, _, _, _, rfl⟩
   ·cases hk
   ·obtain rfl := List.mem_singleton.1 hk
    exact (Array.getElem?_eq_some_iff.1 (show w.heap[k]? = some _ from h2)).1
  ·rcases hv with ⟨_, _, rfl⟩ | ⟨k', cap, c, _, h2, _, _, _, _, _, rfl⟩ <;> simp
 ·have hy0 : 0 < ys.length := List.length_pos_iff.2 hy
  have hmax : xs.length + ys.length ≤ maxLen := by simp only [maxLen]; omega
  have hnews : (byteVs ys).length = ys.length := by simp [byteVs]
  have hne : xs ++ ys ≠ [] := by simp [hy]
  have hmap : (xs ++ ys).map (fun b : UInt8 => Value.int .u8 b.toNat) = byteVs xs ++ byteVs ys := by simp [byteVs]
  rcases hv with ⟨rfl, rfl, rfl⟩ | ⟨k, cap, c, rfl, h2, h3, h4, h5, h6, h7, rfl⟩
  ·have h0 : 0 + ys.length = ys.length := Nat.zero_add _
   have := zbi (ty := ty) ht hi hz S (a := none) (sLen := 0) (sCap := 0) (olds := []) (fun w' hw => by simp [Builtin.firstCells]) (by omega) (by simp only [maxLen] at hmax; simp at hl; omega) (by rw [hb]; exact growslice_fits (by omega) (by simp at hl; omega))
   rw [h0] at this
   refine ⟨_, _, [w.heap.size], this, .inr ⟨w.heap.size, grownCap w ys.length 0 te, _, by simp, zS w.drew _, hne, ?_, ?_, grownCap_le_maxLen w _ _ te (by simpa using hmax), ?_, rfl⟩, (Moves.drew w).trans (Moves.alloc w.drew _), fun k hk => .inr (by obtain rfl := List.mem_singleton.1 hk; exact Nat.le_refl _), fun k hk => by obtain rfl := List.mem_singleton.1 hk; simp, by simp, by simp⟩
   ·have hge := grownCap_ge w ys.length 0 te
    have hz1 : (Value.int IntKind.u8 0).cells.size = 1 := rfl
    simp only [Array.size_append, List.size_toArray, size_zeroCells, hz1, hnews, List.length_nil, Nat.mul_one]
    omega
   ·have hge := grownCap_ge w ys.length 0 te
    simpa using hge
   ·rw [hmap]
    simp only [Array.toList_append, List.nil_append, byteVs, List.map_nil]
    rw [show List.length ys = (List.map (fun b : UInt8 => Value.int .u8 b.toNat) ys).length by simp]
    exact List.take_left
  ·have hol : c.toList.take (xs.length * i.size) = byteVs xs := by rw [hs, Nat.mul_one]; exact h7
   by_cases hroom : xs.length + ys.length ≤ cap
   ·have hfit : xs.length * i.size + (byteVs ys).length ≤ c.size := by rw [hs, hnews, h4]; omega
    have := zdb (ty := ty) ht hi S (show w.heap[k]? = _ from h2) (ziM ys) hroom hfit
    refine ⟨_, _, [k], this, .inr ⟨k, cap, _, by rw [List.length_append], zaZ w _ h2, hne, ?_, by rw [List.length_append]; exact hroom, h6, ?_, rfl⟩, Moves.setRow w k _, fun k' hk => .inl hk, fun k' hk => ?_, by simp, by simp⟩
    ·simp only [List.size_toArray, List.length_append, List.length_take, List.length_drop, Array.length_toList, hnews, hs]
     omega
    ·rw [hmap]
     simp only [hol]
     rw [show List.length (xs ++ ys) = (byteVs xs ++ byteVs ys).length by simp [byteVs]]
     exact List.take_left
    ·obtain rfl := List.mem_singleton.1 hk
     have := (Array.getElem?_eq_some_iff.1 (show w.heap[k']? = some _ from h2)).1
     simpa using this
   ·have hln : (byteVs xs).length = xs.length * i.size := by rw [hs]; simp [byteVs]
    have := zbi (ty := ty) ht hi hz S (a := some ⟨k, 0, none⟩) (sLen := xs.length) (sCap := cap) (olds := byteVs xs) (fun w' hw =>
     run_firstCells_some w' i.size xs.length ⟨k, 0, none⟩ xs.length cap (byteVs xs) hln (fun j u hj => by
      rw [hw, Addr.add_none, Nat.zero_add]
      rw [← hol, List.getElem?_take] at hj
      split at hj
      ·have hg' : w.heap[k]? = some (.cells c te (0, 0)) := h2
       simp [World.cell?, hg']
       simpa using hj
      ·cases hj)) (by omega) (by simp only [maxLen] at hmax; omega) (by rw [hb]; exact growslice_fits (by omega) (by omega))
    refine ⟨_, _, [w.heap.size], this, .inr ⟨w.heap.size, _, _, by rw [List.length_append], zS w.drew _, hne, ?_, ?_, grownCap_le_maxLen w _ _ te hmax, ?_, rfl⟩, ((Moves.drew w).trans (Moves.alloc w.drew _)).weaken (by simp), fun k hk => .inr (by obtain rfl := List.mem_singleton.1 hk; exact Nat.le_refl _), fun k hk => by obtain rfl := List.mem_singleton.1 hk; simp, by simp, by simp⟩
    ·have hge := grownCap_ge w (xs.length + ys.length) cap te
     have hz1 : (Value.int IntKind.u8 0).cells.size = 1 := rfl
     simp only [Array.size_append, List.size_toArray, size_zeroCells, hz1, hnews, Nat.mul_one]
     simp [byteVs]
     omega
    ·have hge := grownCap_ge w (xs.length + ys.length) cap te
     simpa using hge
    ·rw [hmap]
     simp only [Array.toList_append, List.append_assoc]
     rw [← List.append_assoc, show List.length (xs ++ ys) = (byteVs xs ++ byteVs ys).length by simp [byteVs]]
     exact List.take_left
theorem zio {P : Program} {ops : Array Oper} {rest : List Oper} {o : Oper} {a : Act} {w : World} {Q : Exit → Act → World → Prop} (hgd : o.guard = none) (s x : Operand) (t t' : TypeId)
  (ho : o.op = .call { callee := .builtin .append, args := #[s, x], argTypes := #[t, t'] }) {vs vx v' : Value} {w' : World} (hs : a.eval s = vs) (hx : a.eval x = vx)
  (hr : (Builtin.append_ #[t, t'] o.type #[vs, vx]).run P w = .ok v' w') (h : wpList P ops Q rest (a.put o.dst v') w') : wpList P ops Q (o :: rest) a w := by
 refine wpList_plain hgd fun K hK => ?_
 unfold Oper.wp execOp
 simp only [ho, resolve, invoke, builtin, Sem.run_bind, Sem.run_pure, Result.andThen_ok, List.map_toArray, List.map_cons, List.map_nil, hs, hx, hr]
 exact hK _ _ h
def SbChkOK (P : Program) (f T : Nat) : Prop :=
 ∀ (w : World) (g : Nat) (p vb : Value), w.heap[g]? = some (.cells #[p, vb] T (0, 0)) → (p = .pointer none ∨ p = .pointer (some ⟨g, 0, none⟩)) →
  Calls P f #[.pointer (some ⟨g, 0, none⟩)] w fun e w' => e = .returned (.tuple #[]) ∧ Moves w w' [g] ∧ w'.heap.size = w.heap.size ∧ w'.heap[g]? = some (.cells #[.pointer (some ⟨g, 0, none⟩), vb] T (0, 0))
def SbLeft (T te : Nat) (xs : List UInt8) (v : Value) (w : World) (N : Nat → Prop) (G : List Nat) (w' : World) : Prop :=
 ∃ G', Moves w w' G ∧ RepT (memOf w') N (.sb T te) xs [v] G' ∧ (∀ k ∈ G', k ∈ G ∨ w.heap.size ≤ k) ∧ (∀ k ∈ G', k < w'.heap.size) ∧ G'.Nodup
def SbWriteOK (P : Program) (f T te : Nat) : Prop :=
 ∀ (w : World) (N : Nat → Prop) (xs ys : List UInt8) (v : Value) (G : List Nat), RepT (memOf w) N (.sb T te) xs [v] G → G.Nodup → (∀ k ∈ G, k < w.heap.size) → xs.length + ys.length ≤ 140737488355328 →
  Calls P f #[v, .string ⟨⟨ys⟩⟩] w (Post fun r w' => r = .tuple #[.int .i64 ys.length, .nilIface] ∧ SbLeft T te (xs ++ ys) v w N G w')
def SbByteOK (P : Program) (f T te : Nat) : Prop :=
 ∀ (w : World) (N : Nat → Prop) (xs : List UInt8) (y : UInt8) (v : Value) (G : List Nat), RepT (memOf w) N (.sb T te) xs [v] G → G.Nodup → (∀ k ∈ G, k < w.heap.size) → xs.length + 1 ≤ 140737488355328 →
  Calls P f #[v, .int .u8 y.toNat] w (Post fun r w' => r = .nilIface ∧ SbLeft T te (xs ++ [y]) v w N G w')
def SbTextOK (P : Program) (f T te : Nat) : Prop :=
 ∀ (w : World) (N : Nat → Prop) (xs : List UInt8) (v : Value) (G : List Nat), RepT (memOf w) N (.sb T te) xs [v] G → G.Nodup → (∀ k ∈ G, k < w.heap.size) →
  Calls P f #[v] w (Post fun r w' => r = .string ⟨⟨xs⟩⟩ ∧ Moves w w' G)
theorem zkL {T te : Nat} {w w1 w2 : World} {N : Nat → Prop} {g : Nat} {vb v' : Value} {xs : List UInt8} {F F' : List Nat} (hnd : (g :: F).Nodup) (h1 : Moves w w1 [g]) (hs1 : w1.heap.size = w.heap.size) (hg : w1.heap[g]? = some (.cells #[.pointer (some ⟨g, 0, none⟩), vb] T (0, 0)))
  (hlt : ∀ k ∈ g :: F, k < w.heap.size) (h2 : Moves w1 w2 F) (hb : SbBuf (memOf w2) te xs v' F') (hF : ∀ k ∈ F', k ∈ F ∨ w1.heap.size ≤ k) (hF2 : ∀ k ∈ F', k < w2.heap.size) (hn' : F'.Nodup) (hsz : w1.heap.size ≤ w2.heap.size) :
  SbLeft T te xs (.pointer (some ⟨g, 0, none⟩)) w N (g :: F) (w2.setCell ⟨g, 1, none⟩ v') := by
 have hg1 : g < w1.heap.size := by rw [hs1]; exact hlt g (by simp)
 have hgF : g ∉ F := (List.nodup_cons.1 hnd).1
 have hg2 : w2.heap[g]? = some (.cells #[.pointer (some ⟨g, 0, none⟩), vb] T (0, 0)) := (h2.block g hg1 hgF).trans hg
 have hgF' : g ∉ F' := fun h => by
  rcases hF g h with h | h
  ·exact hgF h
  ·omega
 have hset : ∀ k, k ≠ g → (w2.setCell ⟨g, 1, none⟩ v').heap[k]? = w2.heap[k]? := fun k hk => Below.heap_setCell _ _ _ _ (fun e => hk e)
 refine ⟨g :: F', ?_, ⟨g, .pointer (some ⟨g, 0, none⟩), v', F', rfl, ?_, .inr rfl, rfl, ?_⟩, ?_, ?_, ?_⟩
 ·refine Moves.trans (h1.weaken (by simp)) (Moves.trans (h2.weaken (fun k hk => List.mem_cons_of_mem _ hk)) ?_)
  exact ⟨rfl, rfl, rfl, by simp [World.setCell], fun k _ hk => hset k (fun e => hk (by simp [e]))⟩
 ·show (w2.setCell ⟨g, 1, none⟩ v').heap[g]? = _
  simp [World.setCell, Array.getElem?_modify, hg2]
 ·exact hb.mono (fun k hk => hset k (fun e => hgF' (e ▸ hk)))
 ·intro k hk
  rcases List.mem_cons.1 hk with rfl | hk
  ·exact .inl (by simp)
  ·rcases hF k hk with h | h
   ·exact .inl (List.mem_cons_of_mem _ h)
   ·exact .inr (by omega)
 ·intro k hk
  have hs : (w2.setCell ⟨g, 1, none⟩ v').heap.size = w2.heap.size := by simp [World.setCell]
  rw [hs]
  rcases List.mem_cons.1 hk with rfl | hk
  ·omega
  ·exact hF2 k hk
 ·exact List.nodup_cons.2 ⟨hgF', hn'⟩
theorem zjl {P : Program} {w : World} {t' : TypeId} {n : Nat} {y : List UInt8} (hn : n = 1) (ht : P.underlying t' = some .string) : AppSrc P w t' (.string ⟨⟨y⟩⟩) n y.length (byteVs y) := by
 subst hn
 refine ⟨.inr ht, fun w' => by simp [Builtin.lenOf, zdk], fun w' hw => ?_, by simp [byteVs]⟩
 have : (ByteArray.extract ⟨⟨y⟩⟩ 0 y.length) = ⟨⟨y⟩⟩ := by
  rw [zeS]; simp
 simp only [Builtin.firstCells, this]
 simp [byteVs]
theorem zly {P : Program} {w : World} {t' te : TypeId} {n k : Nat} {y : UInt8} (hn : n = 1) (ht : P.underlying t' = some (.slice te)) (hk : w.heap[k]? = some (.cells #[.int .u8 y.toNat] te (0, 0))) : AppSrc P w t' (.slice (some ⟨k, 0, none⟩) 1 1) n [y].length (byteVs [y]) := by
 subst hn
 refine ⟨.inl ⟨te, ht⟩, fun w' => rfl, fun w' hw => ?_, rfl⟩
 refine run_firstCells_some w' 1 1 ⟨k, 0, none⟩ 1 1 (byteVs [y]) rfl (fun j u hj => ?_)
 rw [hw, Addr.add_none, Nat.zero_add]
 match j, hj with
 | 0, hj =>
  obtain rfl := Option.some.inj hj
  simp [World.cell?, hk]
theorem zhj {P : Program} {f T te : Nat} (h : SbWriteOK P f T te) {w : World} {N : Nat → Prop} {xs ys : List UInt8} {us : List Value} {G : List Nat} (hr : RepAs (memOf w) N (.cons (.sb T te) (.cons .str .nil)) (xs, ys, ()) us G) (hn : G.Nodup) (hG : ∀ k ∈ G, k < w.heap.size ∧ ¬ N k)
  (hN : ∀ k, N k → k < w.heap.size) (hl : xs.length + ys.length ≤ 140737488355328) :
  Calls P f us.toArray w (Post fun v w' => ∃ G' u1 u2, us = [u1, u2] ∧ Moves w w' G ∧ (∀ k, N k → k < w'.heap.size) ∧ v = retOf [.int .i64 ys.length, .nilIface] ∧ RepAs (memOf w') N (.cons (.int .i64) (.cons .unk .nil)) ((ys.length : Int), (), ()) [.int .i64 ys.length, .nilIface] [] ∧
   RepT (memOf w') N (.sb T te) (xs ++ ys) [u1] G' ∧ G'.Nodup ∧ ∀ k ∈ G', k < w'.heap.size ∧ ¬ N k ∧ (k ∈ G ∨ w.heap.size ≤ k)) := by
 match us, hr with
 | [u1, u2], ⟨F1, F2, e, g1, F3, F4, e2, g2, e3, e4⟩ =>
  have g2' : RepT (memOf w) N .str ys [u2] F3 := g2
  obtain ⟨g3, rfl⟩ := g2'
  obtain rfl := (List.cons.inj g3).1
  have e4' : F4 = [] := e4
  subst e4'; subst e2
  have e' : G = F1 := by simpa using e
  subst e'
  refine Calls.mono (h w N xs ys u1 _ g1 hn (fun k hk => (hG k hk).1) hl) (fun e w' hp => ?_)
  cases e with
  | returned v =>
   obtain ⟨rfl, G', h1, h2, h3, h4, h5⟩ := hp
   exact ⟨G', u1, _, rfl, h1, fun k hk => Nat.lt_of_lt_of_le (hN k hk) h1.size, rfl, ⟨[], [], rfl, ⟨rfl, rfl⟩, [], [], rfl, ⟨rfl, _, rfl, rfl⟩, rfl, rfl⟩, h2, h5, fun k hk => ⟨h4 k hk, (h3 k hk).elim (fun h => (hG k h).2) (fun h hn => absurd (hN k hn) (by omega)), h3 k hk⟩⟩
  | _ => exact hp.elim
theorem zld {P : Program} {f T te : Nat} (h : SbByteOK P f T te) {w : World} {N : Nat → Prop} {xs : List UInt8} {y : Int} {us : List Value} {G : List Nat} (hr : RepAs (memOf w) N (.cons (.sb T te) (.cons (.int .u8) .nil)) (xs, y, ()) us G) (hn : G.Nodup) (hG : ∀ k ∈ G, k < w.heap.size ∧ ¬ N k)
  (hN : ∀ k, N k → k < w.heap.size) (hl : xs.length + 1 ≤ 140737488355328) (h0 : 0 ≤ y) (h1 : y < 256) :
  Calls P f us.toArray w (Post fun v w' => ∃ G' u1 u2, us = [u1, u2] ∧ Moves w w' G ∧ (∀ k, N k → k < w'.heap.size) ∧ v = retOf [.nilIface] ∧ RepAs (memOf w') N (.cons .unk .nil) ((), ()) [.nilIface] [] ∧
   RepT (memOf w') N (.sb T te) (xs ++ [UInt8.ofNat y.toNat]) [u1] G' ∧ G'.Nodup ∧ ∀ k ∈ G', k < w'.heap.size ∧ ¬ N k ∧ (k ∈ G ∨ w.heap.size ≤ k)) := by
 match us, hr with
 | [u1, u2], ⟨F1, F2, e, g1, F3, F4, e2, g2, e3, e4⟩ =>
  have g2' : RepT (memOf w) N (.int .u8) y [u2] F3 := g2
  obtain ⟨g3, rfl⟩ := g2'
  obtain rfl := (List.cons.inj g3).1
  have e4' : F4 = [] := e4
  subst e4'; subst e2
  have e' : G = F1 := by simpa using e
  subst e'
  have hy : y = ((UInt8.ofNat y.toNat).toNat : Int) := by
   have : (UInt8.ofNat y.toNat).toNat = y.toNat % 256 := by simp
   rw [this]; omega
  rw [show ([u1, Value.int .u8 y] : List Value) = [u1, Value.int .u8 ((UInt8.ofNat y.toNat).toNat : Int)] by rw [← hy]]
  refine Calls.mono (h w N xs (UInt8.ofNat y.toNat) u1 _ g1 hn (fun k hk => (hG k hk).1) hl) (fun e w' hp => ?_)
  cases e with
  | returned v =>
   obtain ⟨rfl, G', h1, h2, h3, h4, h5⟩ := hp
   exact ⟨G', u1, _, rfl, h1, fun k hk => Nat.lt_of_lt_of_le (hN k hk) h1.size, rfl, ⟨[], [], rfl, ⟨rfl, _, rfl, rfl⟩, rfl, rfl⟩, h2, h5, fun k hk => ⟨h4 k hk, (h3 k hk).elim (fun h => (hG k h).2) (fun h hn => absurd (hN k hn) (by omega)), h3 k hk⟩⟩
  | _ => exact hp.elim
theorem zhA {P : Program} {f T te : Nat} (h : SbTextOK P f T te) {w : World} {N : Nat → Prop} {xs : List UInt8} {us : List Value} {G : List Nat} (hr : RepAs (memOf w) N (.cons (.sb T te) .nil) (xs, ()) us G) (hn : G.Nodup) (hG : ∀ k ∈ G, k < w.heap.size ∧ ¬ N k)
  (hN : ∀ k, N k → k < w.heap.size) :
  Calls P f us.toArray w (Post fun v w' => ∃ u1, us = [u1] ∧ Moves w w' G ∧ (∀ k, N k → k < w'.heap.size) ∧ v = .string ⟨⟨xs⟩⟩ ∧ RepAs (memOf w') N (.cons .str .nil) (xs, ()) [v] []) := by
 match us, hr with
 | [u1], ⟨F1, F2, e, g1, e3, e4⟩ =>
  have e4' : F2 = [] := e4
  subst e4'
  have e' : G = F1 := by simpa using e
  subst e'
  refine Calls.mono (h w N xs u1 _ g1 hn (fun k hk => (hG k hk).1)) (fun e w' hp => ?_)
  cases e with
  | returned v =>
   obtain ⟨rfl, h1⟩ := hp
   exact ⟨u1, rfl, h1, fun k hk => Nat.lt_of_lt_of_le (hN k hk) h1.size, rfl, ⟨[], [], rfl, ⟨rfl, rfl⟩, rfl, rfl⟩⟩
  | _ => exact hp.elim
end Go.Proofs.YtpdbffngomlleaaDoorPt.Ev
namespace Go.Proofs.YtpdbffngomlleaaDoorPt.Ev
open Go Go.Lib Go.RowKit Go.Proofs
set_option maxHeartbeats 2000000 in
set_option maxRecDepth 100000 in
theorem sbChk : SbChkOK Tryd.prog 42 55 := by
  intro w g p vb hg hp
  have hsh : w.shape? g = some (55, 2) := by simp [World.shape?, hg]
  have c0 : w.cell? ⟨g, 0, none⟩ = some p := by rw [Lib.cell_of_heap hg]; rfl
  have hfz : w.frozen? ⟨g, 0, none⟩ = false := Lib.frozen_of_heap hg 0
  obtain ⟨j, hj, hjs⟩ := Option.map_eq_some_iff.1 (show (Tryd.prog.info? 55).map (·.size) = some 2 by kernel_rfl)
  have t52 := Tryd.underlying52
  have t91 := Tryd.underlying91
  have u52 : ∀ w, Sem.run Tryd.prog (underlying 52) w = .ok (TypeDesc.pointer 55) w := run_underlying t52
  rcases hp with rfl | rfl
  · go_enter Tryd.func42, Tryd.ntmps42
    go_wp2
    rw [Lib.run_to_unsafe w ⟨g, 0, none⟩ t52 t91 hj (by rw [hjs]; decide) hsh (Nat.zero_lt_succ 1)]
    simp only [Result.andThen]
    rw [Oper.upon_value]
    go_wp2
    rw [run_callFunc_extern Tryd.func58 (by kernel_rfl) (by kernel_rfl) (by kernel_rfl) (e := Extern.AbiNoEscape.same) (by kernel_rfl)]
    rw [Lib.run_noEscape]
    simp only [Result.andThen]
    rw [Oper.upon_value]
    go_wp2
    rw [Lib.run_from_unsafe w ⟨g, 0, none⟩ t91 t52 hj hsh (by kernel_rfl)]
    simp only [Result.andThen]
    rw [Oper.upon_value]
    go_wp2
    go_end0
    exact ⟨rfl, ⟨rfl, rfl, rfl, by simp [World.setCell], fun k _ hk => Below.heap_setCell _ _ _ _ (fun e => hk (by simp [e]))⟩, by simp [World.setCell], by simp [World.setCell, Array.getElem?_modify, hg]⟩
  · go_enter Tryd.func42, Tryd.ntmps42
    go_wp2
    rw [Lib.run_neq_ptr_same w _ t52 hj]
    go_wp2
    go_end0
    exact ⟨rfl, (Moves.refl w).weaken (by simp), rfl, hg⟩
set_option maxHeartbeats 2000000 in
set_option maxRecDepth 100000 in
theorem sbWr : SbWriteOK Tryd.prog 23 55 5 := by
  intro w N xs ys v G hr hnd hlt hl
  obtain ⟨g, p, vb, F', hv, hg, hp, rfl, hb0⟩ := hr
  have hb : SbBuf (memOf w) 5 xs vb F' := hb0
  obtain rfl := (List.cons.inj hv).1
  have hgF := (List.nodup_cons.1 hnd).1
  have t53 := Tryd.underlying53
  have tSTR := Tryd.underlying9
  obtain ⟨i, hi, hii⟩ := Option.map_eq_some_iff.1 (show (Tryd.prog.info? 5).map (fun i => (i.zero, i.size, i.bytes)) = some (some (.int .u8 0), 1, 1) by kernel_rfl)
  obtain ⟨hz, hs1, hby⟩ : i.zero = some (.int .u8 0) ∧ i.size = 1 ∧ i.bytes = 1 := by injection hii with h1 h2; injection h2 with h2 h3; exact ⟨h1, h2, h3⟩
  clear hii
  have eCHK : ∀ args w, (callFunc 42 args).run Tryd.prog w = .ok (.enter 42 args) w := enters_of Tryd.func42 (by kernel_rfl) rfl
  have u53 : ∀ w, Sem.run Tryd.prog (underlying 53) w = .ok (TypeDesc.slice 5) w := run_underlying t53
  have hlb : ∀ w', (Builtin.lenOf (.string ⟨⟨ys⟩⟩)).run Tryd.prog w' = .ok ys.length w' := fun w' => by simp [Builtin.lenOf, zdk]
  go_enter Tryd.func23, Tryd.ntmps23
  go_wp2_with (go_at_fn 42; refine (sbChk w g p vb hg hp).mono ?_)
  rintro e w1 rfl hm1 hs2 hg1
  have hb1 : SbBuf (memOf w1) 5 xs vb F' := hb.mono fun k hk => hm1.block k (hlt k (List.mem_cons_of_mem _ hk)) (fun h => hgF (by simp at h; exact h ▸ hk))
  obtain ⟨ao, n0, cc, rfl⟩ := hb1.slice
  obtain ⟨v', w2, F2, hrun, hb2, hm2, hF, hF2, hn', hsz⟩ := zlc (ty := 53) t53 hi hz hs1 hby (zjl (w := w1) (y := ys) hs1 tSTR) hb1 hl
  have c1 : w1.cell? ⟨g, 1, none⟩ = some (.slice ao n0 cc) := by rw [Lib.cell_of_heap hg1]; rfl
  have hfin := zkL (N := N) hnd hm1 hs2 hg1 hlt hm2 hb2 hF hF2 hn' hsz
  have hg2 : w2.heap[g]? = some (.cells #[.pointer (some ⟨g, 0, none⟩), .slice ao n0 cc] 55 (0, 0)) := (hm2.block g (by rw [hs2]; exact hlt g (by simp)) hgF).trans hg1
  have d1 : w2.cell? ⟨g, 1, none⟩ = some (.slice ao n0 cc) := by rw [Lib.cell_of_heap hg2]; rfl
  have f1 : w2.frozen? ⟨g, 1, none⟩ = false := Lib.frozen_of_heap hg2 1
  obtain ⟨a', n', c', rfl⟩ := hb2.slice
  clear hb0 hb1 hb2 hm1 hm2 hg1 hg2
  go_wp2_with (at_builtin; refine zio rfl _ _ 53 9 rfl rfl rfl hrun ?_)
  go_wp2
  go_ret2
  exact ⟨rfl, hfin⟩
theorem extSW : ∀ (g : (E1.ps 23).den → Option (E1.Ret 23)), E1.ext 23 = some g → ∀ (x : (E1.ps 23).den) (yz : E1.Ret 23), g x = some yz → ∀ (w : World) (N : Nat → Prop) (us : List Value) (G : List Nat), RepAs (memOf w) N (E1.ps 23) x us G → G.Nodup → (∀ k ∈ G, k < w.heap.size ∧ ¬ N k) → (∀ k, N k → k < w.heap.size) → E1.tabs w N →
    Calls E1.P (rl 23) us.toArray w (Post fun v w' => ∃ N' rs G1 G2, Done E1 23 yz.1 yz.2 us G N w v w' N' rs G1 G2) := by
  intro g hg
  obtain rfl : g = swG := by
    have : some swG = some g := hg
    exact (Option.some.inj this).symm
  intro x yz hx w N us G hr hnd hG hN hT
  obtain ⟨xs, ys, ⟨⟩⟩ := (x : List UInt8 × List UInt8 × Unit)
  have hx' : (if xs.length + ys.length ≤ 140737488355328 then some (((ys.length : Int), (), ()), (xs ++ ys, ())) else none : Option ((Int × Unit × Unit) × (List UInt8 × Unit))) = some yz := hx
  split at hx'
  · rename_i hcond
    obtain rfl := Option.some.inj hx'
    refine Calls.mono (show Calls E1.P (rl 23) us.toArray w _ from zhj sbWr hr hnd hG hN hcond) (fun e w' hp => ?_)
    cases e with
    | returned v =>
      obtain ⟨G', u1, u2, rfl, hmv, hlt, rfl, hrep, hsb, hn', hk⟩ := hp
      exact ⟨N, _, [], G', hmv, fun _ h => h, fun _ h => .inl h, hlt, rfl, hrep, ⟨G', [], by simp, hsb, rfl⟩, by simpa using hn', fun k hk' => hk k (by simpa using hk')⟩
    | _ => exact hp.elim
  · cases hx'
set_option maxHeartbeats 2000000 in
set_option maxRecDepth 100000 in
theorem sbTx : SbTextOK Tryd.prog 26 55 5 := by
  intro w N xs v G hr hnd hlt
  obtain ⟨g, p, vb, F', hv, hg, hp, rfl, hb0⟩ := hr
  obtain rfl := (List.cons.inj hv).1
  have hgF := (List.nodup_cons.1 hnd).1
  have mixed : Tryd.prog.follows .mixedOrders = true := by kernel_rfl
  have t78 := Tryd.underlying78
  have u53 : ∀ w, Sem.run Tryd.prog (underlying 53) w = .ok (TypeDesc.slice 5) w := run_underlying Tryd.underlying53
  rcases hb0 with ⟨rfl, rfl, rfl⟩ | ⟨k, cap, c, rfl, h2, h3, h4, h5, h6, h7, rfl⟩
  · have hUS : ∀ w, (Builtin.unsafeString_ #[78, 3] 9 #[.pointer none, .int .i64 0]).run Tryd.prog w = .ok (.string .empty) w := fun w => Lib.run_unsafeString_none w _ _ _ none
    have hSD : ∀ w, (Builtin.unsafeSliceData_ #[53] 78 #[.slice none 0 0]).run Tryd.prog w = .ok (.pointer none) w := fun w => rfl
    have c1 : w.drew.cell? ⟨g, 1, none⟩ = some (.slice none 0 0) := by
      have : w.drew.heap[g]? = some (.cells #[p, .slice none 0 0] 55 (0, 0)) := hg
      rw [Lib.cell_of_heap this]; rfl
    go_enter Tryd.func26, Tryd.ntmps26
    go_wp2
    go_region_o
    all_goals (go_wp2; go_ret; exact ⟨rfl, (Moves.drew w).weaken (by simp)⟩)
  · have hk : w.heap[k]? = some (.cells c 5 (0, 0)) := h2
    have hc0 : cap ≠ 0 := by have := List.length_pos_iff.2 h3; omega
    have hgk : g ≠ k := fun e => hgF (by simp [e])
    have hSD : ∀ w, (Builtin.unsafeSliceData_ #[53] 78 #[.slice (some ⟨k, 0, none⟩) xs.length cap]).run Tryd.prog w = .ok (.pointer (some ⟨k, 0, none⟩)) w := fun w => Lib.run_unsafeSliceData_row w _ _ _ _ _ hc0
    have hUS : (Builtin.unsafeString_ #[78, 3] 9 #[.pointer (some ⟨k, 0, none⟩), .int .i64 xs.length]).run Tryd.prog w.drew = .ok (.string ⟨xs.toArray⟩) (w.drew.freeze ⟨k, 0, none⟩ xs.length) := by
      refine Lib.run_unsafeString_row w.drew 78 3 9 5 t78 (by kernel_rfl) k c.size (by have hg' : w.drew.heap[k]? = some (.cells c 5 (0, 0)) := hk; simp [World.shape?, hg']) xs h3 (by omega) (by unfold maxLen at h6; omega) ?_
      intro j x hx
      have hg' : w.drew.heap[k]? = some (.cells c 5 (0, 0)) := hk
      have hj : c[j]? = some (.int .u8 x.toNat) := by
        have hlt' : j < xs.length := (List.getElem?_eq_some_iff.1 hx).1
        have : (c.toList.take xs.length)[j]? = some (.int .u8 x.toNat) := by rw [h7]; simp [hx]
        rw [List.getElem?_take, if_pos hlt'] at this
        simpa using this
      rw [Addr.add_none, Nat.zero_add, Lib.cell_of_heap hg', hj]
    have c1 : w.drew.cell? ⟨g, 1, none⟩ = some (.slice (some ⟨k, 0, none⟩) xs.length cap) := by
      have : w.drew.heap[g]? = some (.cells #[p, .slice (some ⟨k, 0, none⟩) xs.length cap] 55 (0, 0)) := hg
      rw [Lib.cell_of_heap this]; rfl
    have hfin : Moves w (w.drew.freeze ⟨k, 0, none⟩ xs.length) [g, k] := by
      refine ((Moves.drew w).weaken (by simp)).trans ?_
      unfold World.freeze
      split
      · exact (Moves.refl _).weaken (by simp)
      · refine ⟨rfl, rfl, rfl, by simp, fun j _ hj => ?_⟩
        simp only [Array.getElem?_modify]
        rw [if_neg (fun e => hj (by simp [← e]))]
    clear h2 h4 h5 h6 h7
    go_enter Tryd.func26, Tryd.ntmps26
    go_wp2
    go_region_o
    all_goals (go_wp2; go_ret; exact ⟨rfl, hfin⟩)
theorem extSX : ∀ (g : (E1.ps 26).den → Option (E1.Ret 26)), E1.ext 26 = some g → ∀ (x : (E1.ps 26).den) (yz : E1.Ret 26), g x = some yz → ∀ (w : World) (N : Nat → Prop) (us : List Value) (G : List Nat), RepAs (memOf w) N (E1.ps 26) x us G → G.Nodup → (∀ k ∈ G, k < w.heap.size ∧ ¬ N k) → (∀ k, N k → k < w.heap.size) → E1.tabs w N →
    Calls E1.P (rl 26) us.toArray w (Post fun v w' => ∃ N' rs G1 G2, Done E1 26 yz.1 yz.2 us G N w v w' N' rs G1 G2) := by
  intro g hg
  obtain rfl : g = sxG := by
    have : some sxG = some g := hg
    exact (Option.some.inj this).symm
  intro x yz hx w N us G hr hnd hG hN hT
  obtain ⟨xs, ⟨⟩⟩ := (x : List UInt8 × Unit)
  obtain rfl := Option.some.inj (show some ((xs, ()), ()) = some yz from hx)
  refine Calls.mono (show Calls E1.P (rl 26) us.toArray w _ from zhA sbTx hr hnd hG hN) (fun e w' hp => ?_)
  cases e with
  | returned v =>
    obtain ⟨u1, rfl, hmv, hlt, rfl, hrep⟩ := hp
    exact ⟨N, [_], [], [], hmv, fun _ h => h, fun _ h => .inl h, hlt, rfl, hrep, rfl, List.nodup_nil, by simp⟩
  | _ => exact hp.elim
end Go.Proofs.YtpdbffngomlleaaDoorPt.Ev
