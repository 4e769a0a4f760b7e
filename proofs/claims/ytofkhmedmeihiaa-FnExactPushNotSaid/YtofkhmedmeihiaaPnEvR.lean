/- The evaluator: calls. -/
import Derived.Test.YtofkhmedmeihiaaPnEvQ
namespace Go.Proofs.YtofkhmedmeihiaaPn.Ev
open Go

/-! ### Laying looks at no objects but those that it tells -/
theorem inj_loc : ∀ (τ : Ty) (x : τ.den) (s : Sto) (b : Nat), ∀ i, i ∉ (inj τ x s b).ids → (inj τ x s b).s i = s i := by
  intro τ
  induction τ with
  | agg fs ih => intro x s b i hi; exact ih x s b i hi
  | cons a r iha ihr =>
    intro x s b i hi
    have hi' : i ∉ (inj a x.1 s b).ids ++ (inj r x.2 (inj a x.1 s b).s (inj a x.1 s b).b).ids := hi
    rw [List.mem_append, not_or] at hi'
    exact (ihr _ _ _ i hi'.2).trans (iha _ _ _ i hi'.1)
  | own e _ | map e _ => intro x s b i hi; exact Sto.set_ne _ _ (fun h => hi (by rw [h]; exact List.mem_cons_self ..))
  | box e ih =>
    intro x s b i hi
    have h1 : i ≠ b := fun h => hi (by rw [h]; exact List.mem_cons_self ..)
    exact (Sto.set_ne _ _ h1).trans (ih x s (b + 1) i (fun h => hi (List.mem_cons_of_mem _ h)))
  | _ => intro x s b i hi; rfl

theorem inj_alike : ∀ (τ : Ty) (x : τ.den) (s s2 : Sto) (b : Nat) (M : List Nat), (∀ i ∈ (inj τ x s b).ids, i ∈ M) → (∀ i ∈ M, s2 i = s i) →
    (inj τ x s2 b).cs = (inj τ x s b).cs ∧ (inj τ x s2 b).b = (inj τ x s b).b ∧ (inj τ x s2 b).ids = (inj τ x s b).ids ∧ ∀ i ∈ M, (inj τ x s2 b).s i = (inj τ x s b).s i := by
  intro τ
  induction τ with
  | agg fs ih => intro x s s2 b M hM hs; exact ih x s s2 b M hM hs
  | cons a r iha ihr =>
    intro x s s2 b M hM hs
    have hM' : ∀ i ∈ (inj a x.1 s b).ids ++ (inj r x.2 (inj a x.1 s b).s (inj a x.1 s b).b).ids, i ∈ M := hM
    obtain ⟨c1, c2, c3, c4⟩ := iha x.1 s s2 b M (fun i hi => hM' i (List.mem_append_left _ hi)) hs
    obtain ⟨d1, d2, d3, d4⟩ := ihr x.2 (inj a x.1 s b).s (inj a x.1 s2 b).s (inj a x.1 s b).b M (fun i hi => hM' i (List.mem_append_right _ hi)) c4
    simp only [inj]
    rw [c1, c2, c3, d1, d2, d3]
    exact ⟨rfl, rfl, rfl, d4⟩
  | own e _ | map e _ =>
    intro x s s2 b M hM hs
    have hb : s2 b = s b := hs b (hM b (List.mem_cons_self ..))
    simp only [inj, hb]
    exact ⟨trivial, trivial, trivial, fun i hi => alike_set hs _ _ i hi⟩
  | box e ih =>
    intro x s s2 b M hM hs
    have hM' : ∀ i ∈ b :: (inj e x s (b + 1)).ids, i ∈ M := hM
    obtain ⟨c1, c2, c3, c4⟩ := ih x s s2 (b + 1) M (fun i hi => hM' i (List.mem_cons_of_mem _ hi)) hs
    have hb := c4 b (hM' b (List.mem_cons_self ..))
    simp only [inj]
    rw [c1, c2, c3, hb]
    exact ⟨rfl, rfl, rfl, fun i hi => alike_set c4 _ _ i hi⟩
  | _ => intro x s s2 b M hM hs; exact ⟨rfl, rfl, rfl, hs⟩

theorem injFs_loc : ∀ (τs : Ty) (x : τs.den) (s : Sto) (b : Nat), ∀ i, i ∉ (injFs τs x s b).ids → (injFs τs x s b).s i = s i := by
  intro τs
  induction τs with
  | cons a r _ ihr =>
    intro x s b i hi
    have hi' : i ∉ (inj a x.1 s b).ids ++ (injFs r x.2 (inj a x.1 s b).s (inj a x.1 s b).b).ids := hi
    rw [List.mem_append, not_or] at hi'
    exact (ihr _ _ _ i hi'.2).trans (inj_loc _ _ _ _ i hi'.1)
  | _ => intro x s b i hi; rfl

theorem injFs_alike : ∀ (τs : Ty) (x : τs.den) (s s2 : Sto) (b : Nat) (M : List Nat), (∀ i ∈ (injFs τs x s b).ids, i ∈ M) → (∀ i ∈ M, s2 i = s i) →
    (injFs τs x s2 b).cs = (injFs τs x s b).cs ∧ (injFs τs x s2 b).b = (injFs τs x s b).b ∧ (injFs τs x s2 b).ids = (injFs τs x s b).ids ∧ ∀ i ∈ M, (injFs τs x s2 b).s i = (injFs τs x s b).s i := by
  intro τs
  induction τs with
  | cons a r _ ihr =>
    intro x s s2 b M hM hs
    have hM' : ∀ i ∈ (inj a x.1 s b).ids ++ (injFs r x.2 (inj a x.1 s b).s (inj a x.1 s b).b).ids, i ∈ M := hM
    obtain ⟨c1, c2, c3, c4⟩ := inj_alike a x.1 s s2 b M (fun i hi => hM' i (List.mem_append_left _ hi)) hs
    obtain ⟨d1, d2, d3, d4⟩ := ihr x.2 (inj a x.1 s b).s (inj a x.1 s2 b).s (inj a x.1 s b).b M (fun i hi => hM' i (List.mem_append_right _ hi)) c4
    simp only [injFs]
    rw [c1, c2, c3, d1, d2, d3]
    exact ⟨rfl, rfl, rfl, d4⟩
  | _ => intro x s s2 b M hM hs; exact ⟨rfl, rfl, rfl, hs⟩

theorem backCs_alike : ∀ (τ : Ty) (cs : List C) (z : τ.den) (s : Sto) (b : Nat) (l : Inj (List C)), backCs τ cs z s b = some l → ∀ (M : List Nat), (∀ i ∈ l.ids, i ∈ M) → ∀ s2 : Sto, (∀ i ∈ M, s2 i = s i) →
    ∃ s3, backCs τ cs z s2 b = some { cs := l.cs, s := s3, b := l.b, ids := l.ids } ∧ ∀ i ∈ M, s3 i = l.s i := by
  intro τ
  induction τ with
  | agg fs ih => intro cs z s b l h; exact ih cs z s b l h
  | nil => intro cs z s b l h M hM s2 hs; obtain rfl := Option.some.inj h; exact ⟨s2, rfl, hs⟩
  | cons a r iha ihr =>
    intro cs z s b l h M hM s2 hs
    simp only [backCs] at h
    split at h
    · cases h
    · rename_i p hp
      split at h
      · cases h
      · rename_i q hq
        obtain rfl := Option.some.inj h
        obtain ⟨t1, e1, g1⟩ := iha cs z.1 s b p hp M (fun i hi => hM i (List.mem_append_left _ hi)) s2 hs
        obtain ⟨t2, e2, g2⟩ := ihr p.cs z.2 p.s p.b q hq M (fun i hi => hM i (List.mem_append_right _ hi)) t1 g1
        exact ⟨t2, by simp only [backCs, e1, e2], g2⟩
  | own e _ =>
    intro cs z s b l h M hM s2 hs
    simp only [backCs] at h ⊢
    split at h
    · rename_i id ver r
      split at h
      · rename_i w e' xs hid
        split at h
        · rename_i hc
          obtain rfl := Option.some.inj h
          have h2 : s2 id = s id := hs id (hM id (by simp))
          rw [h2, hid]
          simp only [if_pos hc]
          exact ⟨_, rfl, fun i hi => alike_set hs _ _ i hi⟩
        · cases h
      · cases h
    · obtain rfl := Option.some.inj h
      exact ⟨s2, rfl, hs⟩
    · cases h
  | box e _ => intro cs z s b l h; cases h
  | map _ _ =>
    intro cs z s b l h
    simp only [backCs, Ty.isImm] at h
    cases cs <;> simp at h
  | bool | int _ | str | tree | unk | sl _ _ | ptr _ _ | fn _ _ _ =>
    intro cs z s b l h M hM s2 hs
    cases cs with
    | nil => cases h
    | cons c r =>
      simp only [backCs] at h ⊢
      split at h
      · rename_i hc
        obtain rfl := Option.some.inj h
        exact ⟨s2, by rw [if_pos hc], hs⟩
      · cases h

theorem back1_alike {v : V} {s : Sto} {b : Nat} : ∀ (a : Ty) (z : a.den) (l : Inj Unit), back1 v s b a z = some l → ∀ (M : List Nat), (∀ i ∈ l.ids, i ∈ M) → ∀ s2 : Sto, (∀ i ∈ M, s2 i = s i) →
    ∃ s3, back1 v s2 b a z = some { cs := (), s := s3, b := l.b, ids := l.ids } ∧ ∀ i ∈ M, s3 i = l.s i := by
  intro a z l h M hM s2 hs
  cases a with
  | own e =>
    cases v with
    | one c =>
      cases c with
      | own id ver =>
        simp only [back1] at h ⊢
        split at h
        · rename_i w e' xs hid
          split at h
          · rename_i hc
            obtain rfl := Option.some.inj h
            have h2 : s2 id = s id := hs id (hM id (by simp))
            rw [h2, hid]
            simp only [if_pos hc]
            exact ⟨_, rfl, fun i hi => alike_set hs _ _ i hi⟩
          · cases h
        · cases h
      | e0 =>
        obtain rfl := Option.some.inj h
        exact ⟨s2, rfl, hs⟩
      | _ => cases h
    | _ => cases h
  | box e =>
    cases v with
    | one c =>
      cases c with
      | bp id ver off =>
        cases off with
        | succ _ => cases h
        | zero =>
          simp only [back1] at h ⊢
          split at h
          · rename_i w hid
            split at h
            · rename_i hc
              obtain rfl := Option.some.inj h
              have hM' : ∀ i ∈ (inj e z s b).ids ++ [id], i ∈ M := hM
              obtain ⟨c1, c2, c3, c4⟩ := inj_alike e z s s2 b M (fun i hi => hM' i (List.mem_append_left _ hi)) hs
              have h2 := c4 id (hM' id (by simp))
              rw [h2, hid]
              simp only [if_pos hc, c1, c2, c3]
              exact ⟨_, rfl, fun i hi => alike_set c4 _ _ i hi⟩
            · cases h
          · cases h
      | _ => cases h
    | _ => cases h
  | map e =>
    cases v with
    | one c =>
      cases c with
      | mp id ver =>
        simp only [back1] at h ⊢
        split at h
        · rename_i w hid
          split at h
          · rename_i hc
            obtain rfl := Option.some.inj h
            have h2 : s2 id = s id := hs id (hM id (by simp))
            rw [h2, hid]
            simp only [if_pos hc]
            exact ⟨_, rfl, fun i hi => alike_set hs _ _ i hi⟩
          · cases h
        · cases h
      | _ => cases h
    | _ => cases h
  | agg fs =>
    cases v with
    | agg cs =>
      simp only [back1] at h ⊢
      split at h
      · rename_i s' b' ids hb
        obtain rfl := Option.some.inj h
        obtain ⟨s3, k1, k2⟩ := backCs_alike fs cs z s b _ hb M hM s2 hs
        exact ⟨s3, by rw [k1], k2⟩
      · cases h
    | _ => cases h
  | _ => cases h

theorem back_alike : ∀ (io : List Bool) (τs : Ty) (vs : List V) (z : (ioTy io τs).den) (s : Sto) (b : Nat) (l : Inj Unit), back io τs vs z s b = some l → ∀ (M : List Nat), (∀ i ∈ l.ids, i ∈ M) → ∀ s2 : Sto, (∀ i ∈ M, s2 i = s i) →
    ∃ s3, back io τs vs z s2 b = some { cs := (), s := s3, b := l.b, ids := l.ids } ∧ ∀ i ∈ M, s3 i = l.s i := by
  intro io
  induction io with
  | nil =>
    intro τs vs z s b l h M hM s2 hs
    cases τs with
    | nil =>
      cases vs with
      | nil => obtain rfl := Option.some.inj h; exact ⟨s2, rfl, hs⟩
      | cons _ _ => cases h
    | _ => cases vs <;> cases h
  | cons i io ih =>
    intro τs vs z s b l h M hM s2 hs
    cases τs with
    | cons a r =>
      cases vs with
      | nil => cases i <;> cases h
      | cons v vs =>
        cases i with
        | false => exact ih r vs z s b l h M hM s2 hs
        | true =>
          simp only [back] at h ⊢
          split at h
          · rename_i l1 hl1
            split at h
            · rename_i l2 hl2
              obtain rfl := Option.some.inj h
              have hM' : ∀ i ∈ l1.ids ++ l2.ids, i ∈ M := hM
              obtain ⟨s3, e1, g1⟩ := back1_alike a z.1 l1 hl1 M (fun i hi => hM' i (List.mem_append_left _ hi)) s2 hs
              obtain ⟨s4, e2, g2⟩ := ih r vs z.2 l1.s l1.b l2 hl2 M (fun i hi => hM' i (List.mem_append_right _ hi)) s3 g1
              rw [e1]
              simp only [e2]
              exact ⟨s4, rfl, g2⟩
            · cases h
          · cases h
    | _ => cases i <;> cases vs <;> cases h

/-- What a call's results are, as one value. -/
def retOf : List Value → Value
  | [u] => u
  | us => .tuple ⟨us⟩

/-- What a call leaves. -/
structure Done (E : Env) (f : Nat) (y : (E.rs f).den) (z : (ioTy (E.io f) (E.ps f)).den) (us : List Value) (G : List Nat) (N : Nat → Prop) (w : World) (v : Value) (w' : World) (N' : Nat → Prop) (rs : List Value) (G1 G2 : List Nat) : Prop where
  mv : Moves w w' G
  up : ∀ k, N k → N' k
  new : ∀ k, N' k → N k ∨ k ∈ G ∨ w.heap.size ≤ k
  lt : ∀ k, N' k → k < w'.heap.size
  val : v = retOf rs
  rep : RepAs (memOf w') N' (E.rs f) y rs G1
  back : RepBack (memOf w') N' (E.io f) (E.ps f) z us G2
  nod : (G1 ++ G2).Nodup
  own : ∀ k ∈ G1 ++ G2, k < w'.heap.size ∧ ¬ N' k ∧ (k ∈ G ∨ w.heap.size ≤ k)

def Post (R : Value → World → Prop) : Ending → World → Prop
  | .returned v, w => R v w
  | _, _ => False

/-- A function that hands back a row of its own, of the same elements. -/
def CloneOK (P : Program) (f : Nat) (t : TypeId) : Prop :=
  ∀ te, elemP P t = some te → ∀ (w : World) (N : Nat → Prop) (e : Ty) (xs : List e.den) (v : Value), e.isImm = true → e.sz = szP P te → (∀ k, N k → k < w.heap.size) → Els (memOf w) N e xs v → xs.length * bytesP P te ≤ 140737488355328 →
    Calls P f #[v] w (Post fun v' w' => ∃ G', Moves w w' [] ∧ RepT (memOf w') N (.own e) xs [v'] G' ∧ (∀ k ∈ G', w.heap.size ≤ k ∧ k < w'.heap.size) ∧ G'.Nodup)
def CloneSound (E : Env) : Prop := ∀ f t, E.clone f = some t → CloneOK E.P f t

def CSound (E : Env) (C : (f : Nat) → (E.ps f).den → Option (E.Ret f)) : Prop :=
  CloneSound E ∧ ∀ (f : Nat) (x : (E.ps f).den) (yz : E.Ret f), C f x = some yz → ∀ (w : World) (N : Nat → Prop) (us : List Value) (G : List Nat), RepAs (memOf w) N (E.ps f) x us G → G.Nodup → (∀ k ∈ G, k < w.heap.size ∧ ¬ N k) → (∀ k, N k → k < w.heap.size) →
    Calls E.P (rl f) us.toArray w (Post fun v w' => ∃ N' rs G1 G2, Done E f yz.1 yz.2 us G N w v w' N' rs G1 G2)

theorem SInv.widen {m m' : Mem} {N N' : Nat → Prop} {s : Sto} {hd : Nat → Value} {F : Nat → List Nat} {size size' : Nat} (I : SInv m N s hd F size) (hsz : size ≤ size') (hN : ∀ k, N k → N' k ∧ m' k = m k) (hF : ∀ i k, k ∈ F i → m' k = m k)
    (hN' : ∀ k, N' k → k < size' ∧ ∀ i, k ∉ F i) : SInv m' N' s hd F size' where
  obj := fun i => ObjRep.goes hN (Goes.refl s hd) (fun k hk => hF i k hk) (I.obj i)
  once := I.once
  nodup := I.nodup
  sep := fun i k hk hn => (hN' k hn).2 i hk
  ltF := fun i k hk => Nat.lt_of_lt_of_le (I.ltF i k hk) hsz
  ltN := fun k hk => (hN' k hk).1

/-- What was lent is the call's own again. -/
theorem SInv.unlend {m : Mem} {N : Nat → Prop} {s0 s1 : Sto} {hd : Nat → Value} {F : Nat → List Nat} {size : Nat} (I : SInv m N s1 hd F size)
    (h : ∀ i, (s1 i).2.isL = true → s1 i = s0 i ∨ ∃ (e : Ty) (xs : List e.den), s1 i = ((s0 i).1, .lvec e xs) ∧ (s0 i).2 = .vec e xs) : SInv m N (Ev.unlend s0 s1) hd F size ∧ Goes s1 (Ev.unlend s0 s1) hd hd := by
  have key : ∀ i, (Ev.unlend s0 s1) i = s1 i ∨ ∃ (v : Nat) (e : Ty) (xs : List e.den), s1 i = (v, .lvec e xs) ∧ (Ev.unlend s0 s1) i = (v, .vec e xs) := by
    intro i
    unfold Ev.unlend
    split
    · rename_i e xs hl
      rcases h i (by rw [hl]; rfl) with h1 | ⟨e', ys, h1, h2⟩
      · exact .inl h1.symm
      · refine .inr ⟨(s0 i).1, e', ys, h1, ?_⟩
        rw [← h2]
    · exact .inl rfl
  have hg : Goes s1 (Ev.unlend s0 s1) hd hd := by
    refine ⟨fun i => ?_, fun i _ hv => ?_, fun i _ hv => ?_⟩
    · rcases key i with h | ⟨v, e, xs, h1, h2⟩
      · rw [h]; exact Nat.le_refl _
      · rw [h1, h2]; exact Nat.le_refl _
    · rcases key i with h | ⟨v, e, xs, h1, h2⟩
      · rw [h] at hv ⊢; exact ⟨hv, rfl, rfl, Nat.le_refl _⟩
      · rw [h1, h2]; exact ⟨rfl, rfl, rfl, Nat.le_refl _⟩
    · rcases key i with h | ⟨v, e, xs, h1, h2⟩
      · rw [h] at hv; exact ⟨hv, rfl⟩
      · rw [h2] at hv; simp [Obj.isB] at hv
  refine ⟨⟨fun i => ?_, I.once, I.nodup, I.sep, I.ltF, I.ltN⟩, hg⟩
  have := ObjRep.goes (fun b hb => ⟨hb, rfl⟩) hg (fun _ _ => rfl) (I.obj i)
  rcases key i with h | ⟨v, e, xs, h1, h2⟩
  · rw [h]; exact this
  · rw [h2]; rw [h1] at this; exact this

theorem unlend_loc {s0 s1 : Sto} {i : Nat} (h : s1 i = s0 i) : unlend s0 s1 i = s0 i := by
  unfold unlend
  split
  · rfl
  · exact h

section
variable {m : Mem} {N : Nat → Prop} {s : Sto} {hd : Nat → Value}
theorem exFs_rep : ∀ {τs : Ty} {x : τs.den} {es : List Value}, capsOk τs = true → RepT m N τs x es [] → RepVs m N s hd (exFs τs x) es
  | .nil, _, es, _, h => by
    have e : es = [] := h.1
    subst e; trivial
  | .cons a r, x, es, hc, h => by
    simp only [capsOk, Bool.and_eq_true, Bool.not_eq_true', beq_iff_eq] at hc
    obtain ⟨⟨⟨h1, h2⟩, h3⟩, h4⟩ := hc
    obtain ⟨c1, c2, F1, F2, e1, e2, hA, hR⟩ := h
    have q1 := RepT.imm h3 hA
    subst q1
    have q2 : F2 = [] := by simpa using e2.symm
    subst q2
    have hl := hA.len
    rw [h2] at hl
    match c1, hl with
    | [c], _ =>
      subst e1
      have hx := ex_rep (s := s) (hd := hd) h3 hA
      have hxl := hx.len
      refine ⟨?_, exFs_rep h4 hR⟩
      simp only [h1, V.ofCells]
      match hex : ex a x.1, hxl, hx with
      | [d], _, hx => exact hx.1
  | .bool, _, _, hc, _ | .int _, _, _, hc, _ | .str, _, _, hc, _ | .sl _, _, _, hc, _ | .own _, _, _, hc, _ | .agg _, _, _, hc, _ | .ptr _, _, _, hc, _ | .box _, _, _, hc, _ | .fn _ _, _, _, hc, _ | .tree, _, _, hc, _ | .unk, _, _, hc, _ | .map _, _, _, hc, _ => by simp [capsOk] at hc
end

end Go.Proofs.YtofkhmedmeihiaaPn.Ev
