/- The evaluator: regions are sound. -/
import Derived.Test.YtofkhmedmeihiaaPnEvV
namespace Go.Proofs.YtofkhmedmeihiaaPn.Ev
open Go

section
variable {E : Env} {X : Ctx} {all : Array Oper}

theorem zipWith_get {ops : List Oper} {es : List Eff} {j : Nat} {p : Oper × Eff} (h : (ops.zip es)[j]? = some p) : (List.zipWith (infoOf all) ops es)[j]? = some (infoOf all p.1 p.2) := by
  rw [List.zip_eq_zipWith] at h
  simp only [List.getElem?_zipWith] at h ⊢
  cases ho : ops[j]? with
  | none => rw [ho] at h; simp at h
  | some o =>
    cases he : es[j]? with
    | none => rw [ho, he] at h; simp at h
    | some e => rw [ho, he] at h; simp at h; subst h; rfl

theorem commOk_get {bs : List Nat} {is : List Info} (h : commOk bs is = true) {i j : Nat} {a b : Info} (ha : is[i]? = some a) (hb : is[j]? = some b) (hij : i < j) : (bs.getD j 0).testBit i = true ∨ apart a b = true := by
  unfold commOk at h
  rw [List.all_eq_true] at h
  have h1 := h (b, j) (by rw [List.mem_zipIdx_iff_getElem?]; exact hb)
  simp only at h1
  rw [List.all_eq_true] at h1
  have h2 := h1 (a, i) (by rw [List.mem_zipIdx_iff_getElem?]; exact ha)
  simp only [Bool.or_eq_true, Bool.not_eq_true', decide_eq_false_iff_not] at h2
  rcases h2 with (h2 | h2) | h2
  · exact absurd hij h2
  · exact .inl h2
  · exact .inr h2

theorem apart_spec {a b : Info} (h : apart a b = true) : (∀ d, a.d = some d → d ∉ b.uses ∧ b.d ≠ some d) ∧ (∀ d, b.d = some d → d ∉ a.uses) ∧ (∀ i ∈ a.w, i ∉ b.w ∧ i ∉ b.r) ∧ (∀ i ∈ a.r, i ∉ b.w) := by
  unfold apart at h
  simp only [Bool.and_eq_true, List.all_eq_true] at h
  obtain ⟨⟨⟨h1, h2⟩, h3⟩, h4⟩ := h
  refine ⟨fun d hd => ?_, fun d hd => ?_, fun i hi => ?_, fun i hi => ?_⟩
  · rw [hd] at h1; simpa using h1
  · rw [hd] at h2; simpa using h2
  · simpa using h3 i hi
  · simpa using h4 i hi

theorem backOk_get {ops : List Oper} (h : backOk ops = true) {j : Nat} {o : Oper} (ho : ops[j]? = some o) {e : Edge} (he : e ∈ o.after.toList) (hb : Region.binds .any e = true) : e.on < j := by
  unfold backOk at h
  rw [List.all_eq_true] at h
  have h1 := h (o, j) (by rw [List.mem_zipIdx_iff_getElem?]; exact ho)
  simp only at h1
  rw [List.all_eq_true] at h1
  have h2 := h1 e he
  simpa [hb] using h2

/-- How many are not yet listed. -/
def todo (n : Nat) (listed : Array Bool) : Nat := ((List.range n).filter fun i => !listed.getD i true).length

theorem getD_set {l : Array Bool} {i : Nat} (hi : i < l.size) (j : Nat) (d : Bool) : (l.setIfInBounds i true).getD j d = if j = i then true else l.getD j d := by
  simp only [Array.getD_eq_getD_getElem?, Array.getElem?_setIfInBounds]
  by_cases h : j = i
  · subst h; simp [hi]
  · rw [if_neg (fun e => h e.symm), if_neg h]

theorem todo_set {n : Nat} {l : Array Bool} (hn : l.size = n) {i : Nat} (hi : i < n) (hl : l.getD i true = false) {k : Nat} (h : todo n l = k + 1) : todo n (l.setIfInBounds i true) = k := by
  unfold todo at h ⊢
  have key : ∀ (m : Nat) (xs : List Nat), xs.Nodup → i ∈ xs → (xs.filter fun j => !l.getD j true).length = m + 1 → (xs.filter fun j => !(l.setIfInBounds i true).getD j true).length = m := by
    intro m xs
    induction xs generalizing m with
    | nil => intro _ h; simp at h
    | cons x xs ih =>
      intro hnd hmem hlen
      rw [List.nodup_cons] at hnd
      by_cases hx : x = i
      · subst hx
        have e1 : (xs.filter fun j => !(l.setIfInBounds x true).getD j true) = xs.filter fun j => !l.getD j true := by
          apply List.filter_congr
          intro j hj
          rw [getD_set (by omega), if_neg (fun e => hnd.1 (by rw [← e]; exact hj))]
        rw [List.filter_cons_of_neg (by rw [getD_set (by omega)]; simp), e1]
        rw [List.filter_cons_of_pos (by simp [hl])] at hlen
        simpa using hlen
      · have hm' : i ∈ xs := by
          rcases List.mem_cons.1 hmem with h | h
          · exact absurd h.symm hx
          · exact h
        by_cases hq : l.getD x true = true
        · rw [List.filter_cons_of_neg (by rw [getD_set (by omega), if_neg hx]; simp [hq])]
          rw [List.filter_cons_of_neg (by simp [hq])] at hlen
          exact ih m hnd.2 hm' hlen
        · have hq' : l.getD x true = false := by simpa using hq
          rw [List.filter_cons_of_pos (by rw [getD_set (by omega), if_neg hx]; simp [hq'])]
          rw [List.filter_cons_of_pos (by simp [hq'])] at hlen
          simp only [List.length_cons, Nat.add_right_cancel_iff] at hlen ⊢
          cases m with
          | zero =>
            have : i ∈ xs.filter fun j => !l.getD j true := List.mem_filter.2 ⟨hm', by simp [hl]⟩
            rw [List.eq_nil_of_length_eq_zero hlen] at this
            simp at this
          | succ m =>
            rw [ih m hnd.2 hm' hlen]
  exact key k (List.range n) List.nodup_range (by simpa using hi) h

theorem any_ok {st st' : St} {es : List Eff} {Q : Exit → Act → World → Prop} (hrun : Run E X all all.toList st es st') (hlen : es.length = all.toList.length) (hback : backOk all.toList = true) (hcomm : commOk (befores all.toList []) (List.zipWith (infoOf all) all.toList es) = true)
    (hQ : ∀ a w, Inv X st' a w → Q .normal a w) :
    ∀ (fuel : Nat) (listed : Array Bool) (a : Act) (w : World), listed.size = all.size → todo all.size listed = fuel →
      (∀ j, listed.getD j false = true → ∀ i, ((befores all.toList []).getD j 0).testBit i = true → listed.getD i false = true) → Inv X (stS 0 (all.toList.zip es) (fun i => listed.getD i false) st) a w →
      wpAny E.P .any all Q fuel listed a w := by
  have hbs : ∀ (j : Nat) (o : Oper), all.toList[j]? = some o → ∀ i, ((befores all.toList []).getD j 0).testBit i = true → ∃ e ∈ o.after.toList, Region.binds .any e = true ∧ (i = e.on ∨ ((befores all.toList []).getD e.on 0).testBit i = true) := by
    obtain ⟨tail, h1, h2, h3⟩ := befores_bit all.toList []
    rw [List.nil_append] at h1
    rw [h1]
    simpa using h3
  have hgetD : ∀ (l : Array Bool) (j : Nat), l.size = all.size → j < all.size → l.getD j true = l.getD j false := by
    intro l j hl hj
    simp only [Array.getD_eq_getD_getElem?]
    rw [Array.getElem?_eq_getElem (by omega)]
    rfl
  have hget : ∀ j, j < all.size → ∃ o, all.toList[j]? = some o ∧ all[j]? = some o := by
    intro j hj
    exact ⟨all[j], by simp [hj], by simp [hj]⟩
  -- the first that is not listed is ready
  have hready : ∀ (l : Array Bool), l.size = all.size → todo all.size l ≠ 0 → Region.ready .any all l ≠ [] := by
    intro l hl hne hnil
    have hex : ∃ j, j < all.size ∧ l.getD j true = false := by
      unfold todo at hne
      obtain ⟨j, hj⟩ := List.exists_mem_of_ne_nil ((List.range all.size).filter fun i => !l.getD i true) (fun h => hne (by rw [h]; rfl))
      rw [List.mem_filter] at hj
      exact ⟨j, by simpa using hj.1, by simpa using hj.2⟩
    have hmin : ∀ n, ∀ j, j < n → j < all.size → l.getD j true = true := by
      intro n
      induction n with
      | zero => intro j hj; omega
      | succ n ih =>
        intro j hj hja
        by_cases hjn : j < n
        · exact ih j hjn hja
        · have hjn' : j = n := by omega
          subst hjn'
          apply Classical.byContradiction
          intro hf
          have hf' : l.getD j true = false := by simpa using hf
          obtain ⟨o, ho1, ho2⟩ := hget j hja
          have hin : j ∈ Region.ready .any all l := by
            unfold Region.ready
            rw [List.mem_filter]
            refine ⟨by simpa using hja, ?_⟩
            simp only [hf', Bool.not_false, Bool.true_and, ho2, Option.map_some, Option.getD_some]
            rw [Array.all_eq_true_iff_forall_mem]
            intro e he
            by_cases hb : Region.binds .any e = true
            · have hlt := backOk_get hback ho1 (e := e) (by simpa using he) hb
              have := ih e.on hlt (by omega)
              rw [hgetD l e.on hl (by omega)] at this
              simp [hb, this]
            · simp [hb]
          rw [hnil] at hin
          simp at hin
    obtain ⟨j, hj, hjf⟩ := hex
    rw [hmin (j + 1) j (by omega) hj] at hjf
    cases hjf
  have hdone : ∀ (l : Array Bool) a w, l.size = all.size → todo all.size l = 0 → Inv X (stS 0 (all.toList.zip es) (fun i => l.getD i false) st) a w → Q .normal a w := by
    intro l a w hl h0 I
    rw [hrun.last 0 (fun i => l.getD i false) (fun i _ hi => by
      have hia : i < all.size := by simpa using hi
      rw [← hgetD l i hl hia]
      apply Classical.byContradiction
      intro hf
      unfold todo at h0
      have hnil := List.eq_nil_of_length_eq_zero h0
      have : i ∈ (List.range all.size).filter fun i => !l.getD i true := List.mem_filter.2 ⟨by simpa using hia, by simpa using hf⟩
      rw [hnil] at this
      simp at this)] at I
    exact hQ a w I
  intro fuel
  induction fuel with
  | zero =>
    intro l a w hl h0 _ I
    refine ⟨?_, hdone l a w hl h0 I⟩
    apply List.eq_nil_iff_forall_not_mem.2
    intro i hi
    unfold Region.ready at hi
    rw [List.mem_filter] at hi
    unfold todo at h0
    have hnil := List.eq_nil_of_length_eq_zero h0
    have : i ∈ (List.range all.size).filter fun i => !l.getD i true := List.mem_filter.2 ⟨hi.1, by
      have := hi.2
      simp only [Bool.and_eq_true] at this
      exact this.1⟩
    rw [hnil] at this
    simp at this
  | succ fuel ih =>
    intro l a w hl h0 hcl I
    refine ⟨fun hnil => absurd hnil (hready l hl (by omega)), fun i hi => ?_⟩
    unfold Region.ready at hi
    rw [List.mem_filter] at hi
    obtain ⟨hi1, hi2⟩ := hi
    have hia : i < all.size := by simpa using hi1
    obtain ⟨o, ho1, ho2⟩ := hget i hia
    simp only [Bool.and_eq_true, Bool.not_eq_true', ho2, Option.map_some, Option.getD_some] at hi2
    obtain ⟨hlf, hedges⟩ := hi2
    have hlf' : l.getD i false = false := by rw [← hgetD l i hl hia]; exact hlf
    rw [Array.all_eq_true_iff_forall_mem] at hedges
    have hedge : ∀ e ∈ o.after.toList, Region.binds .any e = true → l.getD e.on false = true := by
      intro e he hb
      have := hedges e (by simpa using he)
      simpa [hb] using this
    obtain ⟨e, hpe⟩ : ∃ e, (all.toList.zip es)[i]? = some (o, e) := by
      have hil : i < es.length := by rw [hlen]; simpa using hia
      refine ⟨es[i], ?_⟩
      rw [List.getElem?_zip_eq_some]
      exact ⟨ho1, List.getElem?_eq_getElem hil⟩
    have hbef : ∀ i', ((befores all.toList []).getD i 0).testBit i' = true → l.getD i' false = true := by
      intro i' hb
      obtain ⟨e', h1, h2, h3⟩ := hbs i o ho1 i' hb
      rcases h3 with rfl | h3
      · exact hedge e' h1 h2
      · exact hcl e'.on (hedge e' h1 h2) i' h3
    have hgw := hrun.at 0 i (o, e) hpe (fun k => decide (k < i)) (fun k => by simp)
    -- the others don't meet it
    have happ : ∀ (k : Nat) (q : Oper × Eff), (all.toList.zip es)[k]? = some q → l.getD k false ≠ decide (k < i) → (k < i → apart (infoOf all q.1 q.2) (infoOf all o e) = true) ∧ (i < k → apart (infoOf all o e) (infoOf all q.1 q.2) = true) ∧ k ≠ i := by
      intro k q hq hne
      refine ⟨fun hk => ?_, fun hk => ?_, fun hk => ?_⟩
      · rcases commOk_get hcomm (zipWith_get hq) (zipWith_get hpe) hk with h | h
        · exact absurd (by rw [hbef k h]; simp [hk]) hne
        · exact h
      · have hkt : l.getD k false = true := by
          have : decide (k < i) = false := by simp; omega
          rw [this] at hne
          simpa using hne
        rcases commOk_get hcomm (zipWith_get hpe) (zipWith_get hq) hk with h | h
        · rw [hcl k hkt i h] at hlf'; cases hlf'
        · exact h
      · subst hk; rw [hlf'] at hne; simp at hne
    have halT : ∀ t ∈ (infoOf all o e).uses, (stS 0 (all.toList.zip es) (fun i => l.getD i false) st).t t = (stS 0 (all.toList.zip es) (fun k => decide (k < i)) st).t t := by
      intro t ht
      refine cmpT _ 0 st st (fun k q hq hne => ?_) rfl
      rw [Nat.zero_add] at hne
      obtain ⟨a1, a2, a3⟩ := happ k q hq hne
      intro hd
      rcases Nat.lt_trichotomy k i with h | h | h
      · exact ((apart_spec (a1 h)).1 t hd).1 ht
      · exact a3 h
      · exact (apart_spec (a2 h)).2.1 t hd ht
    have halO : ∀ x, x ∈ e.w ∨ x ∈ e.r → (stS 0 (all.toList.zip es) (fun i => l.getD i false) st).o x = (stS 0 (all.toList.zip es) (fun k => decide (k < i)) st).o x := by
      intro x hx
      refine cmpO _ 0 st st (fun k q hq hne => ?_) rfl
      rw [Nat.zero_add] at hne
      obtain ⟨a1, a2, a3⟩ := happ k q hq hne
      intro hd
      rcases Nat.lt_trichotomy k i with h | h | h
      · have := (apart_spec (a1 h)).2.2.1 x hd
        rcases hx with hx | hx
        · exact this.1 hx
        · exact this.2 hx
      · exact a3 h
      · rcases hx with hx | hx
        · exact ((apart_spec (a2 h)).2.2.1 x hx).1 hd
        · exact (apart_spec (a2 h)).2.2.2 x hx hd
    have hins : ∀ a' w', Inv X ((stS 0 (all.toList.zip es) (fun i => l.getD i false) st).app o.dst e) a' w' → wpAny E.P .any all Q fuel (l.setIfInBounds i true) a' w' := by
      intro a' w' I'
      refine ih (l.setIfInBounds i true) a' w' (by simpa using hl) (todo_set hl hia hlf h0) (fun j hj i' hb => ?_) ?_
      · rw [getD_set (by omega)] at hj ⊢
        by_cases hji : j = i
        · subst hji
          split
          · rfl
          · exact hbef i' hb
        · rw [if_neg hji] at hj
          split
          · rfl
          · exact hcl j hj i' hb
      · have := stS_insert (S := fun k => l.getD k false) (S1 := fun k => (l.setIfInBounds i true).getD k false) (j := i) (st := st) hpe (by rw [getD_set (by omega), if_pos rfl]) (fun k hk => by rw [getD_set (by omega), if_neg hk])
          (fun k q t hk hq hs hd hq' => by
            obtain ⟨_, a2, _⟩ := happ k q hq (by have : decide (k < i) = false := by simp; omega
                                                 rw [hs, this]; simp)
            exact ((apart_spec (a2 hk)).1 t hd).2 hq')
          (fun k q x hk hq hs hd hq' => by
            obtain ⟨_, a2, _⟩ := happ k q hq (by have : decide (k < i) = false := by simp; omega
                                                 rw [hs, this]; simp)
            exact ((apart_spec (a2 hk)).2.2.1 x hd).1 hq')
        rw [this]
        exact I'
    unfold wpOp
    rw [ho2]
    exact hgw _ halT halO a w I _ Q hins

theorem Inv.drew {st : St} {a : Act} {w : World} (I : Inv X st a w) : Inv X st a { w with drawn := w.drawn + 1 } := by
  obtain ⟨N, hd, F, I⟩ := I
  exact ⟨N, hd, F, I.s, I.t, I.defers, I.size, I.io, ⟨I.fr.os, I.fr.tape, I.fr.output, I.fr.size, I.fr.block, I.fr.up, I.fr.new, I.fr.own⟩⟩

theorem region_ok {O : Oracle E} (hC : CSound E O.C) (hm : E.P.follows .mixedOrders = true) {R : Type} {r : R} {id : Nat} {draw : Bool} {st : St} {K : St → Option R} 
    (h : (evOps E O all X.io X.nt all.toList st [] fun is st' => if draw = false ∨ (backOk all.toList && commOk (befores all.toList []) is) = true then K st' else none) = some r) :
    ∃ st', K st' = some r ∧ ∀ (Q : Exit → Act → World → Prop) a w, Inv X st a w → (∀ a w, Inv X st' a w → Q .normal a w) → (Code.region id all draw).wp E.P Q a w := by
  obtain ⟨es, st', hrun, hl, h⟩ := evOps_ok hC _ _ _ _ h
  by_cases hc0 : draw = false ∨ (backOk all.toList && commOk (befores all.toList []) ([].reverse ++ List.zipWith (infoOf all) all.toList es)) = true
  · rw [if_pos hc0] at h
    have hc : draw = false ∨ (backOk all.toList && commOk (befores all.toList []) (List.zipWith (infoOf all) all.toList es)) = true := hc0
    refine ⟨st', h, fun Q a w I hQ => ?_⟩
    cases draw with
    | false =>
      refine wp_region ?_
      have := hrun.wpOps (Q := Q) 0 (fun i _ => by simp) a w I hQ
      simpa [List.range_eq_range'] using this
    | true =>
      have hc' : (backOk all.toList && commOk (befores all.toList []) (List.zipWith (infoOf all) all.toList es)) = true := by
        rcases hc with hc | hc
        · cases hc
        · exact hc
      rw [Bool.and_eq_true] at hc'
      have hrep : ∀ (i : Nat) (d : Bool), i < all.size → (Array.replicate all.size false).getD i d = false := by
        intro i d hi
        simp [Array.getD_eq_getD_getElem?, Array.getElem?_replicate, hi]
      have hrep' : ∀ (i : Nat), (Array.replicate all.size false).getD i false = false := by
        intro i
        by_cases hi : i < all.size
        · exact hrep i false hi
        · simp [Array.getD_eq_getD_getElem?, Array.getElem?_replicate, hi]
      refine wp_region_any hm (any_ok hrun hl hc'.1 hc'.2 hQ all.size _ a _ (by simp) ?_ (fun j hj => ?_) ?_)
      · unfold todo
        rw [List.filter_eq_self.2 (fun i hi => by rw [hrep i true (by simpa using hi)]; rfl), List.length_range]
      · rw [hrep'] at hj; cases hj
      · rw [stS_none _ _ _ _ (fun i _ _ => hrep' i)]
        exact I.drew
  · rw [if_neg hc0] at h; cases h
end

end Go.Proofs.YtofkhmedmeihiaaPn.Ev
