/- The evaluator: laying data as cells is sound; both ways look at no objects but those that they tell. -/
import Derived.Test.YtofkhmedmeihiaaPnEvD
namespace Go.Proofs.YtofkhmedmeihiaaPn.Ev
open Go

/-- What a laying leaves. -/
structure InjOK (m : Mem) (N : Nat → Prop) (s : Sto) (hd : Nat → Value) (F : Nat → List Nat) (size : Nat) (G : List Nat) (s' : Sto) (ids : List Nat) (b b' : Nat) (hd' : Nat → Value) (F' : Nat → List Nat) : Prop where
  inv : SInv m N s' hd' F' size
  goes : Goes s s' hd hd'
  loc : ∀ i, i ∉ ids → s' i = s i ∧ F' i = F i ∧ hd' i = hd i
  sub : ∀ i k, k ∈ F' i → k ∈ F i ∨ k ∈ G
  rng : ∀ i ∈ ids, b ≤ i ∧ i < b'
  le : b ≤ b'

section
variable {m : Mem} {N : Nat → Prop} {size : Nat}

theorem InjOK.none {s : Sto} {hd : Nat → Value} {F : Nat → List Nat} (I : SInv m N s hd F size) (G : List Nat) (b : Nat) : InjOK m N s hd F size G s [] b b hd F :=
  ⟨I, Goes.refl s hd, fun _ _ => ⟨rfl, rfl, rfl⟩, fun _ _ h => .inl h, by simp, Nat.le_refl _⟩

theorem InjOK.seq {s s1 s2 : Sto} {hd hd1 hd2 : Nat → Value} {F F1 F2 : Nat → List Nat} {G1 G2 : List Nat} {i1 i2 : List Nat} {b b1 b2 : Nat} (h1 : InjOK m N s hd F size G1 s1 i1 b b1 hd1 F1) (h2 : InjOK m N s1 hd1 F1 size G2 s2 i2 b1 b2 hd2 F2) :
    InjOK m N s hd F size (G1 ++ G2) s2 (i1 ++ i2) b b2 hd2 F2 where
  inv := h2.inv
  goes := h1.goes.trans h2.goes
  loc := fun i hi => by
    have a1 := h1.loc i (fun h => hi (List.mem_append_left _ h))
    have a2 := h2.loc i (fun h => hi (List.mem_append_right _ h))
    exact ⟨a2.1.trans a1.1, a2.2.1.trans a1.2.1, a2.2.2.trans a1.2.2⟩
  sub := fun i k hk => by
    rcases h2.sub i k hk with h | h
    · rcases h1.sub i k h with h | h
      · exact .inl h
      · exact .inr (List.mem_append_left _ h)
    · exact .inr (List.mem_append_right _ h)
  rng := fun i hi => by
    have := h1.le; have := h2.le
    rcases List.mem_append.1 hi with h | h
    · have := h1.rng i h; omega
    · have := h2.rng i h; omega
  le := Nat.le_trans h1.le h2.le

/-- What is laid is nobody's yet. -/
structure Fresh (N : Nat → Prop) (F : Nat → List Nat) (size : Nat) (G : List Nat) : Prop where
  nod : G.Nodup
  lt : ∀ k ∈ G, k < size
  n : ∀ k ∈ G, ¬ N k
  f : ∀ k ∈ G, ∀ i, k ∉ F i

theorem Fresh.left {F : Nat → List Nat} {G1 G2 : List Nat} (h : Fresh N F size (G1 ++ G2)) : Fresh N F size G1 :=
  ⟨(List.nodup_append.1 h.nod).1, fun k hk => h.lt k (List.mem_append_left _ hk), fun k hk => h.n k (List.mem_append_left _ hk), fun k hk => h.f k (List.mem_append_left _ hk)⟩
theorem Fresh.right {F F1 : Nat → List Nat} {G1 G2 : List Nat} (h : Fresh N F size (G1 ++ G2)) (hs : ∀ i k, k ∈ F1 i → k ∈ F i ∨ k ∈ G1) : Fresh N F1 size G2 :=
  ⟨(List.nodup_append.1 h.nod).2.1, fun k hk => h.lt k (List.mem_append_right _ hk), fun k hk => h.n k (List.mem_append_right _ hk), fun k hk i hi => by
    rcases hs i k hi with h' | h'
    · exact h.f k (List.mem_append_right _ hk) i h'
    · exact (List.nodup_append.1 h.nod).2.2 k h' k hk rfl⟩

theorem new_ok {s : Sto} {hd : Nat → Value} {F : Nat → List Nat} (I : SInv m N s hd F size) (id ver : Nat) (o : Obj) (v : Value) (G : List Nat) (hG : Fresh N F size G) (hver : (s id).1 < ver)
    (ho : ∀ s' hd', Goes s s' hd hd' → hd' id = v → ObjRep m N s' hd' o v G) :
    InjOK m N s hd F size G (s.set id (ver, o)) [id] id (id + 1) (fun i => if i = id then v else hd i) (fun i => if i = id then G else F i) := by
  have hg : Goes s (s.set id (ver, o)) hd (fun i => if i = id then v else hd i) := Goes.set_new id ver o hver (fun i hi => by simp [hi])
  refine ⟨I.upd id (ver, o) G (Nat.le_refl _) (fun b hb => ⟨hb, rfl⟩) (fun k hk => ⟨I.ltN k hk, fun i _ hi => I.sep i k hi hk, fun h => hG.n k h hk⟩) (fun _ _ _ _ => rfl) hG.nod (fun k hk => ⟨hG.lt k hk, fun i _ => hG.f k hk i⟩) hg (fun i hi => by simp [hi]) ?_, hg, fun i hi => ?_, fun i k hk => ?_, by simp, by omega⟩
  · have := ho (s.set id (ver, o)) (fun i => if i = id then v else hd i) hg (by simp)
    simpa using this
  · have e : i ≠ id := fun h => hi (by simp [h])
    exact ⟨Sto.set_ne _ _ e, by simp [e], by simp [e]⟩
  · by_cases e : i = id
    · simp only [e, if_true] at hk; exact .inr hk
    · simp only [e, if_false] at hk; exact .inl hk

theorem inj_ok : ∀ (τ : Ty) (x : τ.den) (s : Sto) (b : Nat) {hd : Nat → Value} {F : Nat → List Nat}, SInv m N s hd F size → ∀ {vs : List Value} {G : List Nat}, RepT m N τ x vs G → Fresh N F size G →
    ∃ hd' F', InjOK m N s hd F size G (inj τ x s b).s (inj τ x s b).ids b (inj τ x s b).b hd' F' ∧ RepCs m N (inj τ x s b).s hd' (inj τ x s b).cs vs := by
  intro τ
  induction τ with
  | agg fs ih => intro x s b hd F I vs G h hG; exact ih x s b I h hG
  | nil => intro x s b hd F I vs G h hG; exact ⟨hd, F, InjOK.none I G b, by rw [h.1]; trivial⟩
  | cons a r iha ihr =>
    intro x s b hd F I vs G h hG
    obtain ⟨c1, c2, F1, F2, e1, e2, h1, h2⟩ := h
    subst e1; subst e2
    obtain ⟨hd1, Fa, k1, r1⟩ := iha x.1 s b I h1 hG.left
    obtain ⟨hd2, Fb, k2, r2⟩ := ihr x.2 (inj a x.1 s b).s (inj a x.1 s b).b k1.inv h2 (hG.right k1.sub)
    exact ⟨hd2, Fb, k1.seq k2, (r1.goes (fun b hb => ⟨hb, rfl⟩) k2.goes).append r2⟩
  | own e _ =>
    intro x s b hd F I vs G h hG
    have hl := h.len
    obtain ⟨v, rfl⟩ : ∃ v, vs = [v] := by
      match vs, hl with
      | [v], _ => exact ⟨v, rfl⟩
    have k := new_ok I b ((s b).1 + 1) (.vec e x) v G hG (by omega) (fun s' hd' _ _ => h)
    refine ⟨_, _, k, ?_, trivial⟩
    exact ⟨by simp [inj, Sto.set_same], RepT.one' h v (by simp), fun _ _ => by simp⟩
  | box e ih =>
    intro x s b hd F I vs G h hG
    obtain ⟨g, es, T, F', e1, hc, hr, e2⟩ := h
    subst e1; subst e2
    have hG' : Fresh N F size F' := ⟨(List.nodup_cons.1 hG.nod).2, fun k hk => hG.lt k (List.mem_cons_of_mem _ hk), fun k hk => hG.n k (List.mem_cons_of_mem _ hk), fun k hk => hG.f k (List.mem_cons_of_mem _ hk)⟩
    obtain ⟨hd1, F1, k1, r1⟩ := ih x s (b + 1) I hr hG'
    have hg : Fresh N F1 size [g] := ⟨by simp, by simpa using hG.lt g (by simp), by simpa using hG.n g (by simp), fun k hk i hi => by
      simp at hk; subst hk
      rcases k1.sub i k hi with h | h
      · exact hG.f k (by simp) i h
      · exact (List.nodup_cons.1 hG.nod).1 h⟩
    have k2 := new_ok k1.inv b (((inj e x s (b + 1)).s b).1 + 1) (.box (inj e x s (b + 1)).cs) (.pointer (some ⟨g, 0, none⟩)) [g] hg (by omega)
      (fun s' hd' hgo _ => ⟨g, es, T, rfl, hc, r1.goes (fun b hb => ⟨hb, rfl⟩) hgo, rfl⟩)
    refine ⟨_, _, ⟨k2.inv, k1.goes.trans k2.goes, fun i hi => ?_, fun i k hk => ?_, fun i hi => ?_, ?_⟩, ?_, trivial⟩
    · have hi1 : i ∉ (inj e x s (b + 1)).ids := fun h => hi (List.mem_cons_of_mem _ h)
      have hi2 : i ∉ [b] := fun h => hi (by simp at h; rw [h]; exact List.mem_cons_self ..)
      have a1 := k1.loc i hi1; have a2 := k2.loc i hi2
      exact ⟨a2.1.trans a1.1, a2.2.1.trans a1.2.1, a2.2.2.trans a1.2.2⟩
    · rcases k2.sub i k hk with h | h
      · rcases k1.sub i k h with h | h
        · exact .inl h
        · exact .inr (List.mem_cons_of_mem _ h)
      · simp at h; subst h; exact .inr (List.mem_cons_self ..)
    · have := k1.le
      rcases List.mem_cons.1 hi with rfl | h
      · exact ⟨Nat.le_refl _, this⟩
      · have := k1.rng i h; exact ⟨by omega, this.2⟩
    · have := k1.le
      show b ≤ (inj e x s (b + 1)).b; omega
    · exact ⟨by simp [inj, Sto.set_same], rfl, fun _ _ => ⟨g, by simp, rfl⟩⟩
  | ptr e _ =>
    intro x s b hd F I vs G h hG
    obtain ⟨_, bb, off, es, e1, h1, h2, h3⟩ := h
    subst e1
    exact ⟨hd, F, InjOK.none I G b, ⟨bb, off, es, rfl, h1, h2, h3⟩, trivial⟩
  | map e _ =>
    intro x s b hd F I vs G h hG
    have hl := h.len
    obtain ⟨v, rfl⟩ : ∃ v, vs = [v] := by
      match vs, hl with
      | [v], _ => exact ⟨v, rfl⟩
    have k := new_ok I b ((s b).1 + 1) (.mapo e x) v G hG (by omega) (fun s' hd' _ _ => h)
    refine ⟨_, _, k, ?_, trivial⟩
    exact ⟨by simp [inj, Sto.set_same], RepT.one' h v (by simp), fun _ _ => by simp⟩
  | bool | int _ | str | tree | unk =>
    intro x s b hd F I vs G h hG
    have hl := h.len
    have hG0 := RepT.imm rfl h
    subst hG0
    match vs, hl with
    | [v], _ => exact ⟨hd, F, InjOK.none I [] b, h, trivial⟩
  | sl e _ =>
    intro x s b hd F I vs G h hG
    have hl := h.len
    have hG0 := h.1
    subst hG0
    match vs, hl with
    | [v], _ => exact ⟨hd, F, InjOK.none I [] b, h, trivial⟩
  | fn f caps _ =>
    intro x s b hd F I vs G h hG
    have hl := h.len
    have hG0 := h.1
    subst hG0
    match vs, hl with
    | [v], _ => exact ⟨hd, F, InjOK.none I [] b, h, trivial⟩
end

/-! ### What is not told is not looked at -/
theorem prSl_loc (lend : Bool) {e : Ty} {c : C} {s : Sto} {x : List e.den} {s' : Sto} {m' : List Nat} (h : prSl lend e c s = some (x, s', m')) : ∀ i, i ∉ m' → s' i = s i := by
  unfold prSl at h
  repeat' split at h
  all_goals first
    | (cases h; done)
    | (simp only [Option.some.injEq, Prod.mk.injEq] at h
       obtain ⟨_, rfl, rfl⟩ := h
       intro i hi
       first
        | rfl
        | exact Sto.set_ne _ _ (fun h => hi (by rw [h]; exact List.mem_cons_self ..)))

theorem prNode_loc {ds : List C} {s : Sto} {x : nodeTy.den} {s' : Sto} {m' : List Nat} (h : prNode ds s = some (x, s', m')) : ∀ i, i ∉ m' → s' i = s i := by
  unfold prNode at h
  repeat' split at h
  all_goals first
    | (cases h; done)
    | (rename_i h1 _ _ _ _ h2 _ _ _ _ h3
       simp only [Option.some.injEq, Prod.mk.injEq] at h
       obtain ⟨_, rfl, rfl⟩ := h
       intro i hi
       simp only [List.append_nil, List.mem_append, not_or] at hi
       exact (prSl_loc _ h3 i hi.1).trans ((prSl_loc _ h2 i hi.2.1).trans (prSl_loc _ h1 i hi.2.2)))

theorem pr_loc (lend : Bool) : ∀ (τ : Ty) (cs : List C) (s : Sto) (m0 : List Nat) (q : Pr τ.den), pr lend τ cs s m0 = some q → (∀ i ∈ m0, i ∈ q.m) ∧ ∀ i, i ∉ q.m → q.s i = s i := by
  intro τ
  induction τ generalizing lend with
  | agg fs ih => intro cs s m0 q h; exact ih lend cs s m0 q h
  | nil => intro cs s m0 q h; obtain rfl := Option.some.inj h; exact ⟨fun _ h => h, fun _ _ => rfl⟩
  | cons a r iha ihr =>
    intro cs s m0 q h
    simp only [pr] at h
    split at h
    · cases h
    · rename_i p hp
      split at h
      · cases h
      · rename_i q' hq
        obtain rfl := Option.some.inj h
        have h1 := iha lend _ _ _ _ hp; have h2 := ihr lend _ _ _ _ hq
        exact ⟨fun i hi => h2.1 i (h1.1 i hi), fun i hi => (h2.2 i hi).trans (h1.2 i (fun h => hi (h2.1 i h)))⟩
  | sl e _ =>
    intro cs s m0 q h
    simp only [pr] at h
    split at h
    · split at h
      · rename_i hp
        obtain rfl := Option.some.inj h
        exact ⟨fun i hi => List.mem_append_right _ hi, fun i hi => prSl_loc _ hp i (fun h => hi (List.mem_append_left _ h))⟩
      · cases h
    · cases h
  | own e _ =>
    intro cs s m0 q h
    simp only [pr] at h
    repeat' split at h
    all_goals first
      | (cases h; done)
      | (obtain rfl := Option.some.inj h
         refine ⟨fun i hi => by first | exact hi | exact List.mem_cons_of_mem _ hi | exact List.mem_cons_of_mem _ (List.mem_cons_of_mem _ hi), fun i hi => ?_⟩
         first
          | rfl
          | exact Sto.set_ne _ _ (fun h => hi (by rw [h]; exact List.mem_cons_self ..))
          | exact (Sto.set_ne _ _ (fun h => hi (by rw [h]; exact List.mem_cons_self ..))).trans (fillK_loc (by assumption) i (fun h => hi (by rw [h]; exact List.mem_cons_of_mem _ (List.mem_cons_self ..)))))
  | ptr e ih | box e ih =>
    intro cs s m0 q h
    simp only [pr] at h
    repeat' split at h
    all_goals first
      | (cases h; done)
      | (obtain rfl := Option.some.inj h
         refine ⟨fun i hi => ?_, fun i hi => ?_⟩
         · first | exact hi | exact List.mem_cons_of_mem _ hi | exact List.mem_cons_of_mem _ (List.mem_append_right _ hi)
         · first
            | rfl
            | (refine (Sto.set_ne _ _ (fun h => hi (by rw [h]; exact List.mem_cons_self ..))).trans ((ih false _ _ _ _ (by assumption)).2 i (fun h => hi (List.mem_cons_of_mem _ (List.mem_append_left _ h))))))
  | unk =>
    intro cs s m0 q h
    cases cs with
    | nil => cases h
    | cons c r => obtain rfl := Option.some.inj h; exact ⟨fun _ h => h, fun _ _ => rfl⟩
  | map e _ =>
    intro cs s m0 q h
    simp only [pr] at h
    repeat' split at h
    all_goals first
      | (cases h; done)
      | (obtain rfl := Option.some.inj h
         exact ⟨fun i hi => List.mem_cons_of_mem _ hi, fun i hi => Sto.set_ne _ _ (fun h => hi (by rw [h]; exact List.mem_cons_self ..))⟩)
  | tree =>
    intro cs s m0 q h
    simp only [pr] at h
    repeat' split at h
    all_goals first
      | (cases h; done)
      | (obtain rfl := Option.some.inj h
         refine ⟨fun i hi => ?_, fun i hi => ?_⟩
         · first | exact hi | exact List.mem_cons_of_mem _ hi | exact List.mem_cons_of_mem _ (List.mem_append_right _ hi)
         · first
            | rfl
            | (refine (Sto.set_ne _ _ (fun h => hi (by rw [h]; exact List.mem_cons_self ..))).trans (prNode_loc (by assumption) i (fun h => hi (List.mem_cons_of_mem _ (List.mem_append_left _ h))))))
  | bool | int _ | str | fn _ _ =>
    intro cs s m0 q h
    cases cs with
    | nil => cases h
    | cons c r =>
      cases c with
      | imm σ x =>
        simp only [pr] at h
        split at h
        · obtain rfl := Option.some.inj h; exact ⟨fun _ h => h, fun _ _ => rfl⟩
        · cases h
      | _ => cases h

theorem alike_set {M : List Nat} {s s2 : Sto} (hs : ∀ i ∈ M, s2 i = s i) (id : Nat) (e : Nat × Obj) : ∀ i ∈ M, (s2.set id e) i = (s.set id e) i := by
  intro i hi
  by_cases h : i = id
  · subst h; simp [Sto.set_same]
  · simp only [Sto.set_ne _ _ h]; exact hs i hi

theorem prSl_alike (lend : Bool) {e : Ty} {c : C} {s : Sto} {x : List e.den} {s' : Sto} {m' : List Nat} (h : prSl lend e c s = some (x, s', m')) {M : List Nat} (hM : ∀ i ∈ m', i ∈ M) {s2 : Sto} (hs : ∀ i ∈ M, s2 i = s i) :
    ∃ s2', prSl lend e c s2 = some (x, s2', m') ∧ ∀ i ∈ M, s2' i = s' i := by
  cases c with
  | imm σ y =>
    simp only [prSl] at h ⊢
    split at h
    · rename_i hσ
      simp only [Option.some.injEq, Prod.mk.injEq] at h
      obtain ⟨rfl, rfl, rfl⟩ := h
      exact ⟨s2, by rw [dif_pos hσ], hs⟩
    · cases h
  | e0 =>
    simp only [prSl, Option.some.injEq, Prod.mk.injEq] at h
    obtain ⟨rfl, rfl, rfl⟩ := h
    exact ⟨s2, rfl, hs⟩
  | own id ver | sub id ver _ _ =>
    simp only [prSl] at h ⊢
    split at h
    · rename_i v' e' xs hsid
      split at h
      · rename_i hv
        split at h
        · rename_i hσ
          simp only [Option.some.injEq, Prod.mk.injEq] at h
          obtain ⟨rfl, rfl, rfl⟩ := h
          have hid := hs id (hM id (List.mem_cons_self ..)); rw [hsid] at hid
          exact ⟨_, by simp only [hid]; rw [if_pos hv, dif_pos hσ], alike_set hs id _⟩
        · cases h
      · cases h
    · rename_i v' e' xs hsid
      split at h
      · rename_i hv
        split at h
        · rename_i hσ
          simp only [Option.some.injEq, Prod.mk.injEq] at h
          obtain ⟨rfl, rfl, rfl⟩ := h
          have hid := hs id (hM id (List.mem_cons_self ..)); rw [hsid] at hid
          exact ⟨s2, by simp only [hid]; rw [if_pos hv, dif_pos hσ], hs⟩
        · cases h
      · cases h
    · rename_i v' e' xs hsid
      split at h
      · rename_i hv
        split at h
        · rename_i hσ
          simp only [Option.some.injEq, Prod.mk.injEq] at h
          obtain ⟨rfl, rfl, rfl⟩ := h
          have hid := hs id (hM id (List.mem_cons_self ..)); rw [hsid] at hid
          exact ⟨s2, by simp only [hid]; rw [if_pos hv, dif_pos hσ], hs⟩
        · cases h
      · cases h
    · cases h
  | _ => cases h

theorem prNode_alike {ds : List C} {s : Sto} {x : nodeTy.den} {s' : Sto} {m' : List Nat} (h : prNode ds s = some (x, s', m')) {M : List Nat} (hM : ∀ i ∈ m', i ∈ M) {s2 : Sto} (hs : ∀ i ∈ M, s2 i = s i) :
    ∃ s2', prNode ds s2 = some (x, s2', m') ∧ ∀ i ∈ M, s2' i = s' i := by
  unfold prNode at h
  split at h
  · split at h
    · rename_i l s1 m1 h1
      split at h
      · rename_i r s3 m3 h3
        split at h
        · rename_i kids s5 m5 h5
          simp only [Option.some.injEq, Prod.mk.injEq] at h
          obtain ⟨rfl, rfl, rfl⟩ := h
          obtain ⟨t1, e1, g1⟩ := prSl_alike _ h1 (fun i hi => hM i (by simp [hi])) hs
          obtain ⟨t2, e2, g2⟩ := prSl_alike _ h3 (fun i hi => hM i (by simp [hi])) g1
          obtain ⟨t3, e3, g3⟩ := prSl_alike _ h5 (fun i hi => hM i (by simp [hi])) g2
          exact ⟨t3, by simp only [prNode, e1, e2, e3], g3⟩
        · cases h
      · cases h
    · cases h
  · cases h

/-- Over objects that are alike where it looks, a projection is the same. -/
theorem pr_alike (lend : Bool) : ∀ (τ : Ty) (cs : List C) (s : Sto) (m0 : List Nat) (q : Pr τ.den), pr lend τ cs s m0 = some q → ∀ (M : List Nat), (∀ i ∈ q.m, i ∈ M) → ∀ (s2 : Sto), (∀ i ∈ M, s2 i = s i) →
    ∃ s2', pr lend τ cs s2 m0 = some { x := q.x, rest := q.rest, s := s2', m := q.m } ∧ ∀ i ∈ M, s2' i = q.s i := by
  intro τ
  induction τ generalizing lend with
  | agg fs ih => intro cs s m0 q h; exact ih lend cs s m0 q h
  | nil => intro cs s m0 q h M hM s2 hs; obtain rfl := Option.some.inj h; exact ⟨s2, rfl, hs⟩
  | cons a r iha ihr =>
    intro cs s m0 q h M hM s2 hs
    simp only [pr] at h
    split at h
    · cases h
    · rename_i p hp
      split at h
      · cases h
      · rename_i q' hq
        obtain rfl := Option.some.inj h
        obtain ⟨t1, e1, g1⟩ := iha lend _ _ _ _ hp M (fun i hi => hM i ((pr_loc lend _ _ _ _ _ hq).1 i hi)) s2 hs
        obtain ⟨t2, e2, g2⟩ := ihr lend _ _ _ _ hq M hM t1 g1
        exact ⟨t2, by simp only [pr, e1, e2], g2⟩
  | sl e _ =>
    intro cs s m0 q h M hM s2 hs
    simp only [pr] at h
    split at h
    · split at h
      · rename_i hp
        obtain rfl := Option.some.inj h
        obtain ⟨t1, e1, g1⟩ := prSl_alike _ hp (fun i hi => hM i (List.mem_append_left _ hi)) hs
        exact ⟨t1, by simp only [pr, e1], g1⟩
      · cases h
    · cases h
  | own e _ =>
    intro cs s m0 q h M hM s2 hs
    cases cs with
    | nil => cases h
    | cons c r =>
      cases c with
      | e0 => obtain rfl := Option.some.inj h; exact ⟨s2, rfl, hs⟩
      | own id ver =>
        simp only [pr] at h ⊢
        split at h
        · rename_i v' e' xs hsid
          split at h
          · rename_i hv
            split at h
            · rename_i hσ
              obtain rfl := Option.some.inj h
              have hid := hs id (hM id (List.mem_cons_self ..)); rw [hsid] at hid
              exact ⟨_, by simp only [hid]; rw [if_pos hv, dif_pos hσ], alike_set hs id _⟩
            · cases h
          · cases h
        · rename_i v' e' xs i y off id' ver' hsid
          split at h
          · rename_i hv
            split at h
            · rename_i ys s' hf
              split at h
              · rename_i hσ
                obtain rfl := Option.some.inj h
                have hid := hs id (hM id (List.mem_cons_self ..)); rw [hsid] at hid
                have hid' := hs id' (hM id' (List.mem_cons_of_mem _ (List.mem_cons_self ..)))
                obtain ⟨s2', f1, f2, f3⟩ := fillK_alike hf hid'
                refine ⟨_, by simp only [hid]; rw [if_pos hv, f1]; simp only; rw [dif_pos hσ], alike_set (fun j hj => ?_) id _⟩
                by_cases hj' : j = id'
                · rw [hj', f2]
                · rw [f3 j hj', fillK_loc hf j hj']; exact hs j hj
              · cases h
            · cases h
          · cases h
        · cases h
      | _ => cases h
  | ptr e ih =>
    intro cs s m0 q h M hM s2 hs
    cases cs with
    | nil => cases h
    | cons c r =>
      cases c with
      | iptr σ x off =>
        cases off with
        | zero =>
          simp only [pr] at h ⊢
          split at h
          · rename_i hσ
            obtain rfl := Option.some.inj h; exact ⟨s2, by rw [dif_pos hσ], hs⟩
          · cases h
        | succ _ => cases h
      | bp id ver off =>
        cases off with
        | succ _ => cases h
        | zero =>
          simp only [pr] at h ⊢
          split at h
          · rename_i v' ds hsid
            split at h
            · rename_i hv
              split at h
              · rename_i x s' m' hp
                split at h
                · cases h
                · rename_i hid'
                  obtain rfl := Option.some.inj h
                  have hid := hs id (hM id (List.mem_cons_self ..)); rw [hsid] at hid
                  obtain ⟨t, e1, g1⟩ := ih false _ _ _ _ hp M (fun i hi => hM i (List.mem_cons_of_mem _ (List.mem_append_left _ hi))) s2 hs
                  exact ⟨_, by simp only [hid]; rw [if_pos hv, e1]; simp only; rw [if_neg hid'], alike_set g1 id _⟩
              · cases h
            · cases h
          · rename_i v' σ x hsid
            split at h
            · rename_i hv
              split at h
              · rename_i hσ
                obtain rfl := Option.some.inj h
                have hid := hs id (hM id (List.mem_cons_self ..)); rw [hsid] at hid
                exact ⟨s2, by simp only [hid]; rw [if_pos hv, dif_pos hσ], hs⟩
              · cases h
            · cases h
          · cases h
      | _ => cases h
  | box e ih =>
    intro cs s m0 q h M hM s2 hs
    cases cs with
    | nil => cases h
    | cons c r =>
      cases c with
      | bp id ver off =>
        cases off with
        | succ _ => cases h
        | zero =>
          simp only [pr] at h ⊢
          split at h
          · rename_i v' ds hsid
            split at h
            · rename_i hv
              split at h
              · rename_i x s' m' hp
                split at h
                · cases h
                · rename_i hid'
                  obtain rfl := Option.some.inj h
                  have hid := hs id (hM id (List.mem_cons_self ..)); rw [hsid] at hid
                  obtain ⟨t, e1, g1⟩ := ih false _ _ _ _ hp M (fun i hi => hM i (List.mem_cons_of_mem _ (List.mem_append_left _ hi))) s2 hs
                  exact ⟨_, by simp only [hid]; rw [if_pos hv, e1]; simp only; rw [if_neg hid'], alike_set g1 id _⟩
              · cases h
            · cases h
          · cases h
      | _ => cases h
  | unk =>
    intro cs s m0 q h M hM s2 hs
    cases cs with
    | nil => cases h
    | cons c r => obtain rfl := Option.some.inj h; exact ⟨s2, rfl, hs⟩
  | map e _ =>
    intro cs s m0 q h M hM s2 hs
    cases cs with
    | nil => cases h
    | cons c r =>
      cases c with
      | mp id ver =>
        simp only [pr] at h ⊢
        split at h
        · rename_i v' e' xs hsid
          split at h
          · rename_i hv
            split at h
            · rename_i hσ
              obtain rfl := Option.some.inj h
              have hid := hs id (hM id (List.mem_cons_self ..)); rw [hsid] at hid
              exact ⟨_, by simp only [hid]; rw [if_pos hv, dif_pos hσ], alike_set hs id _⟩
            · cases h
          · cases h
        · cases h
      | _ => cases h
  | tree =>
    intro cs s m0 q h M hM s2 hs
    cases cs with
    | nil => cases h
    | cons c r =>
      cases c with
      | imm σ x =>
        simp only [pr] at h ⊢
        split at h
        · rename_i hσ
          obtain rfl := Option.some.inj h; exact ⟨s2, by rw [dif_pos hσ], hs⟩
        · cases h
      | nilp => obtain rfl := Option.some.inj h; exact ⟨s2, rfl, hs⟩
      | iptr σ x off =>
        cases off with
        | zero =>
          simp only [pr] at h ⊢
          split at h
          · rename_i hσ
            obtain rfl := Option.some.inj h; exact ⟨s2, by rw [dif_pos hσ], hs⟩
          · cases h
        | succ _ => cases h
      | bp id ver off =>
        cases off with
        | succ _ => cases h
        | zero =>
          simp only [pr] at h ⊢
          split at h
          · rename_i v' ds hsid
            split at h
            · rename_i hv
              split at h
              · rename_i x s' m' hp
                split at h
                · cases h
                · rename_i hid'
                  obtain rfl := Option.some.inj h
                  have hid := hs id (hM id (List.mem_cons_self ..)); rw [hsid] at hid
                  obtain ⟨t, e1, g1⟩ := prNode_alike hp (fun i hi => hM i (List.mem_cons_of_mem _ (List.mem_append_left _ hi))) hs
                  exact ⟨_, by simp only [hid]; rw [if_pos hv, e1]; simp only; rw [if_neg hid'], alike_set g1 id _⟩
              · cases h
            · cases h
          · rename_i v' σ x hsid
            split at h
            · rename_i hv
              split at h
              · rename_i hσ
                obtain rfl := Option.some.inj h
                have hid := hs id (hM id (List.mem_cons_self ..)); rw [hsid] at hid
                exact ⟨s2, by simp only [hid]; rw [if_pos hv, dif_pos hσ], hs⟩
              · cases h
            · cases h
          · cases h
      | _ => cases h
  | bool | int _ | str | fn _ _ =>
    intro cs s m0 q h M hM s2 hs
    cases cs with
    | nil => cases h
    | cons c r =>
      cases c with
      | imm σ x =>
        simp only [pr] at h ⊢
        split at h
        · rename_i hσ
          obtain rfl := Option.some.inj h; exact ⟨s2, by rw [dif_pos hσ], hs⟩
        · cases h
      | _ => cases h

end Go.Proofs.YtofkhmedmeihiaaPn.Ev
