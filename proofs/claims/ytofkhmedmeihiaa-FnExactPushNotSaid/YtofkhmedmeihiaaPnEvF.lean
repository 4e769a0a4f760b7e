/- The evaluator: several values at once, and what a call gives back. -/
import Derived.Test.YtofkhmedmeihiaaPnEvE
namespace Go.Proofs.YtofkhmedmeihiaaPn.Ev
open Go

/-- A value stands for data of a type. -/
def RepA (m : Mem) (N : Nat → Prop) (a : Ty) (x : a.den) (u : Value) (F : List Nat) : Prop :=
  if a.isAgg = true then ∃ cs, u = .agg ⟨cs⟩ ∧ RepT m N a x cs F else RepT m N a x [u] F

/-- Values, one for each field of a list of types. -/
def RepAs (m : Mem) (N : Nat → Prop) : (τs : Ty) → τs.den → List Value → List Nat → Prop
  | .nil, _, us, F => us = [] ∧ F = []
  | .cons a r, x, u :: us, F => ∃ F1 F2, F = F1 ++ F2 ∧ RepA m N a x.1 u F1 ∧ RepAs m N r x.2 us F2
  | _, _, _, _ => False

theorem RepA.mono {m m' : Mem} {N N' : Nat → Prop} (hN : ∀ b, N b → N' b ∧ m' b = m b) {a : Ty} {x : a.den} {u : Value} {F : List Nat} (hF : ∀ g ∈ F, m' g = m g) (h : RepA m N a x u F) : RepA m' N' a x u F := by
  unfold RepA at *
  split
  · rename_i ha
    rw [if_pos ha] at h
    obtain ⟨cs, h1, h2⟩ := h
    exact ⟨cs, h1, RepT.mono hN hF h2⟩
  · rename_i ha
    rw [if_neg ha] at h
    exact RepT.mono hN hF h

theorem RepAs.mono {m m' : Mem} {N N' : Nat → Prop} (hN : ∀ b, N b → N' b ∧ m' b = m b) : ∀ {τs : Ty} {x : τs.den} {us : List Value} {F : List Nat}, (∀ g ∈ F, m' g = m g) → RepAs m N τs x us F → RepAs m' N' τs x us F
  | .nil, _, _, _, _, h => h
  | .cons a r, _, _ :: _, _, hF, ⟨F1, F2, e, h1, h2⟩ => by
    subst e
    exact ⟨F1, F2, rfl, h1.mono hN (fun g hg => hF g (List.mem_append_left _ hg)), RepAs.mono hN (fun g hg => hF g (List.mem_append_right _ hg)) h2⟩

/-- Data that reach no shared memory don't ask what is shared. -/
theorem RepT.flat {m : Mem} {N N' : Nat → Prop} : ∀ {τ : Ty} {x : τ.den} {cs : List Value} {F : List Nat}, τ.flat = true → RepT m N τ x cs F → RepT m N' τ x cs F
  | .bool, _, _, _, _, h | .int _, _, _, _, _, h | .str, _, _, _, _, h | .nil, _, _, _, _, h => h
  | .own e, xs, _, _, hf, h => by
    rcases h with h | ⟨g, cap, c, T, es, Fs, h1, h2, h3, h4, h5, h6, h7, h8, h9, h10⟩
    · exact .inl h
    · exact .inr ⟨g, cap, c, T, es, Fs, h1, h2, h3, h4, h5, h6, h7, fun i hi hi' hi'' => RepT.flat (τ := e) hf (h8 i hi hi' hi''), h9, h10⟩
  | .agg fs, _, _, _, hf, h => RepT.flat (τ := fs) hf h
  | .cons a r, _, _, _, hf, ⟨c1, c2, F1, F2, h1, h2, h3, h4⟩ => by
    simp only [Ty.flat, Bool.and_eq_true] at hf
    exact ⟨c1, c2, F1, F2, h1, h2, RepT.flat hf.1 h3, RepT.flat hf.2 h4⟩
  | .sl _, _, _, _, hf, _ | .ptr _, _, _, _, hf, _ | .box _, _, _, _, hf, _ | .fn _ _, _, _, _, hf, _ | .tree, _, _, _, hf, _ => by simp [Ty.flat] at hf
  | .unk, _, _, _, _, h => h
  | .map e, _, _, _, hf, ⟨g, es, clock, h1, h2, h3, h4, h5⟩ => ⟨g, es, clock, h1, h2, h3, fun i h h' => ⟨(h4 i h h').1, RepT.flat hf (h4 i h h').2⟩, h5⟩

theorem RepA.flat {m : Mem} {N N' : Nat → Prop} {a : Ty} {x : a.den} {u : Value} {F : List Nat} (hf : a.flat = true) (h : RepA m N a x u F) : RepA m N' a x u F := by
  unfold RepA at *
  split
  · rename_i ha; rw [if_pos ha] at h; obtain ⟨cs, h1, h2⟩ := h; exact ⟨cs, h1, h2.flat hf⟩
  · rename_i ha; rw [if_neg ha] at h; exact RepT.flat hf h

theorem RepAs.flat {m : Mem} {N N' : Nat → Prop} : ∀ {τs : Ty} {x : τs.den} {us : List Value} {F : List Nat}, τs.flat = true → RepAs m N τs x us F → RepAs m N' τs x us F
  | .nil, _, _, _, _, h => h
  | .cons a r, _, _ :: _, _, hf, ⟨F1, F2, e, h1, h2⟩ => by
    simp only [Ty.flat, Bool.and_eq_true] at hf
    exact ⟨F1, F2, e, h1.flat hf.1, RepAs.flat hf.2 h2⟩

def RepVs (m : Mem) (N : Nat → Prop) (s : Sto) (hd : Nat → Value) : List V → List Value → Prop
  | [], [] => True
  | v :: vs, u :: us => RepV m N s hd v u ∧ RepVs m N s hd vs us
  | _, _ => False

theorem RepVs.goes {m m' : Mem} {N N' : Nat → Prop} {s s' : Sto} {hd hd' : Nat → Value} (hN : ∀ b, N b → N' b ∧ m' b = m b) (g : Goes s s' hd hd') : ∀ {vs : List V} {us : List Value}, RepVs m N s hd vs us → RepVs m' N' s' hd' vs us
  | [], [], _ => trivial
  | _ :: _, _ :: _, ⟨h1, h2⟩ => ⟨RepV.goes hN g h1, RepVs.goes hN g h2⟩

theorem RepVs.append {m : Mem} {N : Nat → Prop} {s : Sto} {hd : Nat → Value} : ∀ {a b : List V} {u v : List Value}, RepVs m N s hd a u → RepVs m N s hd b v → RepVs m N s hd (a ++ b) (u ++ v)
  | [], _, [], _, _, h => h
  | _ :: _, _, _ :: _, _, ⟨h1, h2⟩, h => ⟨h1, RepVs.append h2 h⟩

/-- What the projection of several values leaves. -/
structure PrsOK (lend : Bool) (m : Mem) (N : Nat → Prop) (s : Sto) (hd : Nat → Value) (F : Nat → List Nat) (size : Nat) (m0 : List Nat) (τs : Ty) (x : τs.den) (s' : Sto) (m1 : List Nat) (us : List Value) (N' : Nat → Prop) (F' : Nat → List Nat) (G : List Nat) : Prop where
  rep : RepAs m (Sn lend N' s' F') τs x us G
  inv : SInv m N' s' hd F' size
  goes : Goes s s' hd hd
  vers : ∀ i, (s' i).1 = (s i).1
  up : ∀ k, N k → N' k
  new : ∀ k, N' k → N k ∨ ∃ i, k ∈ F i
  sub : ∀ i k, k ∈ F' i → k ∈ F i
  nod : G.Nodup
  own : ∀ k ∈ G, (∃ i, k ∈ F i) ∧ ¬ N' k ∧ ∀ i, k ∉ F' i
  acc : ∀ i ∈ m0, i ∈ m1
  loc : ∀ i, i ∉ m1 → s' i = s i ∧ F' i = F i
  keep : ∀ i, (s i).2.isL = true → s' i = s i ∧ F' i = F i
  vk : ∀ i (e : Ty) (xs : List e.den), (s' i).2 = .vec e xs → s' i = s i ∧ F' i = F i
  lv : ∀ i, (s' i).2.isL = true → F' i = F i ∧ (s' i = s i ∨ ∃ (e : Ty) (xs : List e.den), s' i = ((s i).1, .lvec e xs) ∧ (s i).2 = .vec e xs)

section
variable {m : Mem} {hd : Nat → Value} {size : Nat}

theorem prFs_ok (lend : Bool) : ∀ (τs : Ty) (vs : List V) (s : Sto) (m0 : List Nat) (q : Pr τs.den), prFs lend τs vs s m0 = some q → ∀ {N : Nat → Prop} {F : Nat → List Nat}, SInv m N s hd F size → ∀ {us : List Value}, RepVs m N s hd vs us →
    ∃ N' F' G, PrsOK lend m N s hd F size m0 τs q.x q.s q.m us N' F' G := by
  intro τs
  induction τs with
  | nil =>
    intro vs s m0 q h N F I us hv
    cases vs with
    | nil =>
      obtain rfl := Option.some.inj h
      cases us with
      | nil => exact ⟨N, F, [], ⟨rfl, rfl⟩, I, Goes.refl s hd, fun _ => rfl, fun _ h => h, fun _ h => .inl h, fun _ _ h => h, List.nodup_nil, by simp, fun _ h => h, fun _ _ => ⟨rfl, rfl⟩, fun _ _ => ⟨rfl, rfl⟩, fun _ _ _ _ => ⟨rfl, rfl⟩, fun _ _ => ⟨rfl, .inl rfl⟩⟩
      | cons _ _ => exact hv.elim
    | cons _ _ => cases h
  | cons a r _ ihr =>
    intro vs s m0 q h N F I us hv
    cases vs with
    | nil => cases h
    | cons v vs =>
      cases us with
      | nil => exact hv.elim
      | cons u us =>
        simp only [prFs] at h
        split at h
        · rename_i hfit
          split at h
          · rename_i x s1 m1 hp
            split at h
            · rename_i q' hq
              obtain rfl := Option.some.inj h
              obtain ⟨hv1, hv2⟩ := hv
              have key : ∃ cs, RepCs m N s hd v.cells cs ∧ (∀ N' G, RepT m N' a x cs G → RepA m N' a x u G) := by
                cases v with
                | one c =>
                  simp [V.fits] at hfit
                  refine ⟨[u], ⟨hv1, trivial⟩, fun N' G k => ?_⟩
                  unfold RepA; rw [if_neg (by simp [hfit.1])]; exact k
                | agg cs =>
                  obtain ⟨ws, e, h1⟩ := hv1
                  refine ⟨ws, h1, fun N' G k => ?_⟩
                  unfold RepA; rw [if_pos (show a.isAgg = true from hfit)]; exact ⟨ws, e, k⟩
                | _ => simp [V.fits] at hfit
              obtain ⟨cs, hcs, hA⟩ := key
              obtain ⟨v1, v2, N1, F1, G1, k⟩ := pr_ok lend a v.cells s m0 _ hp I hcs
              replace k : PrOK lend m N s hd F size m0 a x [] s1 m1 cs v1 v2 N1 F1 G1 := k
              have e2 := RepCs.nil_inv k.rest
              have e1 := k.vs
              rw [e2, List.append_nil] at e1
              subst e1
              obtain ⟨N2, F2, G2, k2⟩ := ihr vs s1 m1 q' hq k.inv (RepVs.goes (fun b hb => ⟨k.up b hb, rfl⟩) k.goes hv2)
              refine ⟨N2, F2, G1 ++ G2, ?_⟩
              exact
              { rep := ⟨G1, G2, rfl, (hA _ G1 k.rep).mono (fun b hb => ⟨Sn.go k2.up k2.keep hb, rfl⟩) (fun _ _ => rfl), k2.rep⟩
                inv := k2.inv
                goes := k.goes.trans k2.goes
                vers := fun i => (k2.vers i).trans (k.vers i)
                up := fun j hj => k2.up j (k.up j hj)
                new := fun j hj => by
                  rcases k2.new j hj with h | ⟨i, h⟩
                  · exact k.new j h
                  · exact .inr ⟨i, k.sub i j h⟩
                sub := fun i j hj => k.sub i j (k2.sub i j hj)
                nod := by
                  rw [List.nodup_append]
                  refine ⟨k.nod, k2.nod, fun j hj j' hj' e => ?_⟩
                  subst e
                  obtain ⟨⟨i, hi⟩, _⟩ := k2.own j hj'
                  exact (k.own j hj).2.2 i hi
                own := fun j hj => by
                  rcases List.mem_append.1 hj with hj | hj
                  · refine ⟨(k.own j hj).1, fun hn => ?_, fun i hi => (k.own j hj).2.2 i (k2.sub i j hi)⟩
                    rcases k2.new j hn with h | ⟨i, h⟩
                    · exact (k.own j hj).2.1 h
                    · exact (k.own j hj).2.2 i h
                  · obtain ⟨⟨i, hi⟩, h3, h4⟩ := k2.own j hj
                    exact ⟨⟨i, k.sub i j hi⟩, h3, h4⟩
                acc := fun i hi => k2.acc i (k.acc i hi)
                loc := fun i hi => by
                  have hi1 : i ∉ m1 := fun h => hi (k2.acc i h)
                  exact ⟨(k2.loc i hi).1.trans (k.loc i hi1).1, (k2.loc i hi).2.trans (k.loc i hi1).2⟩
                keep := fun i hi => by
                  have q1 := k.keep i hi
                  have q2 := k2.keep i (by rw [q1.1]; exact hi)
                  exact ⟨q2.1.trans q1.1, q2.2.trans q1.2⟩
                vk := fun i e xs hi => by
                  have q2 := k2.vk i e xs hi
                  have q1 := k.vk i e xs (by rw [← q2.1]; exact hi)
                  exact ⟨q2.1.trans q1.1, q2.2.trans q1.2⟩
                lv := fun i hi => by
                  obtain ⟨e2, h⟩ := k2.lv i hi
                  rcases h with h | ⟨e, xs, h3, h4⟩
                  · obtain ⟨e1, h'⟩ := k.lv i (by rw [← h]; exact hi)
                    rcases h' with h' | ⟨e, xs, h3, h4⟩
                    · exact ⟨e2.trans e1, .inl (h.trans h')⟩
                    · exact ⟨e2.trans e1, .inr ⟨e, xs, by rw [h, h3], h4⟩⟩
                  · obtain ⟨q1, q2⟩ := k.vk i e xs h4
                    exact ⟨e2.trans q2, .inr ⟨e, xs, by rw [h3, q1], by rw [← q1]; exact h4⟩⟩ }
            · cases h
          · cases h
        · cases h
  | _ => intro vs s m0 q h; cases vs <;> cases h

theorem prFs_loc (lend : Bool) : ∀ (τs : Ty) (vs : List V) (s : Sto) (m0 : List Nat) (q : Pr τs.den), prFs lend τs vs s m0 = some q → (∀ i ∈ m0, i ∈ q.m) ∧ ∀ i, i ∉ q.m → q.s i = s i := by
  intro τs
  induction τs with
  | nil =>
    intro vs s m0 q h
    cases vs with
    | nil => obtain rfl := Option.some.inj h; exact ⟨fun _ h => h, fun _ _ => rfl⟩
    | cons _ _ => cases h
  | cons a r _ ihr =>
    intro vs s m0 q h
    cases vs with
    | nil => cases h
    | cons v vs =>
      simp only [prFs] at h
      split at h
      · split at h
        · rename_i x s1 m1 hp
          split at h
          · rename_i q' hq
            obtain rfl := Option.some.inj h
            have h1 := pr_loc lend a _ _ _ _ hp; have h2 := ihr _ _ _ _ hq
            exact ⟨fun i hi => h2.1 i (h1.1 i hi), fun i hi => (h2.2 i hi).trans (h1.2 i (fun h => hi (h2.1 i h)))⟩
          · cases h
        · cases h
      · cases h
  | _ => intro vs s m0 q h; cases vs <;> cases h

theorem prFs_alike (lend : Bool) : ∀ (τs : Ty) (vs : List V) (s : Sto) (m0 : List Nat) (q : Pr τs.den), prFs lend τs vs s m0 = some q → ∀ (M : List Nat), (∀ i ∈ q.m, i ∈ M) → ∀ (s2 : Sto), (∀ i ∈ M, s2 i = s i) →
    ∃ q2 : Pr τs.den, prFs lend τs vs s2 m0 = some q2 ∧ q2.x = q.x ∧ q2.m = q.m ∧ ∀ i ∈ M, q2.s i = q.s i := by
  intro τs
  induction τs with
  | nil =>
    intro vs s m0 q h M hM s2 hs
    cases vs with
    | nil => obtain rfl := Option.some.inj h; exact ⟨_, rfl, rfl, rfl, hs⟩
    | cons _ _ => cases h
  | cons a r _ ihr =>
    intro vs s m0 q h M hM s2 hs
    cases vs with
    | nil => cases h
    | cons v vs =>
      simp only [prFs] at h ⊢
      split at h
      · rename_i hfit
        split at h
        · rename_i x s1 m1 hp
          split at h
          · rename_i q' hq
            obtain rfl := Option.some.inj h
            have h2 := prFs_loc lend r _ _ _ _ hq
            obtain ⟨t1, e1, g1⟩ := pr_alike lend a _ _ _ _ hp M (fun i hi => hM i (h2.1 i hi)) s2 hs
            obtain ⟨q2, e2, x2, m2, g2⟩ := ihr _ _ _ _ hq M hM t1 g1
            refine ⟨{ x := (x, q2.x), rest := [], s := q2.s, m := q2.m }, ?_, by simp only [x2], m2, g2⟩
            rw [if_pos hfit, e1]; simp only [e2]
          · cases h
        · cases h
      · cases h
  | _ => intro vs s m0 q h; cases vs <;> cases h

theorem RepA.rep {N : Nat → Prop} {a : Ty} {x : a.den} {u : Value} {F : List Nat} (h : RepA m N a x u F) : ∃ cs, RepT m N a x cs F ∧ (if a.isAgg = true then u = .agg ⟨cs⟩ else cs = [u]) := by
  unfold RepA at h
  split at h
  · rename_i ha; obtain ⟨cs, h1, h2⟩ := h; exact ⟨cs, h2, by rw [if_pos ha]; exact h1⟩
  · rename_i ha; exact ⟨[u], h, by rw [if_neg ha]⟩

theorem ofCells_rep {N : Nat → Prop} {s : Sto} {hd : Nat → Value} {ag : Bool} {cs : List C} {ws : List Value} {u : Value} (h : RepCs m N s hd cs ws) (hu : if ag = true then u = .agg ⟨ws⟩ else ws = [u]) : RepV m N s hd (V.ofCells ag cs) u ∧ RepP m N s hd (ag, cs) u := by
  cases ag with
  | true => exact ⟨⟨ws, hu, h⟩, ⟨ws, hu, h⟩⟩
  | false =>
    simp at hu
    subst hu
    have hl := h.len
    match cs, hl with
    | [c], _ => exact ⟨h.1, h.1⟩

theorem injFs_ok {N : Nat → Prop} : ∀ (τs : Ty) (x : τs.den) (s : Sto) (b : Nat) {hd : Nat → Value} {F : Nat → List Nat}, SInv m N s hd F size → ∀ {us : List Value} {G : List Nat}, RepAs m N τs x us G → Fresh N F size G →
    ∃ hd' F', InjOK m N s hd F size G (injFs τs x s b).s (injFs τs x s b).ids b (injFs τs x s b).b hd' F' ∧ RepVs m N (injFs τs x s b).s hd' (injFs τs x s b).cs us ∧
      RepPs m N (injFs τs x s b).s hd' ((injFs τs x s b).cs.map V.pair) us := by
  intro τs
  induction τs with
  | nil =>
    intro x s b hd F I us G h hG
    obtain ⟨rfl, rfl⟩ := h
    exact ⟨hd, F, InjOK.none I [] b, trivial, trivial⟩
  | cons a r _ ihr =>
    intro x s b hd F I us G h hG
    cases us with
    | nil => exact h.elim
    | cons u us =>
      obtain ⟨F1, F2, e, h1, h2⟩ := h
      subst e
      obtain ⟨cs, hr, hu⟩ := h1.rep
      obtain ⟨hd1, Fa, k1, r1⟩ := inj_ok a x.1 s b I hr hG.left
      obtain ⟨hd2, Fb, k2, r2, p2⟩ := ihr x.2 (inj a x.1 s b).s (inj a x.1 s b).b k1.inv h2 (hG.right k1.sub)
      have k := ofCells_rep (r1.goes (fun b hb => ⟨hb, rfl⟩) k2.goes) hu
      refine ⟨hd2, Fb, k1.seq k2, ⟨k.1, r2⟩, ?_, p2⟩
      have e : ∀ (ag : Bool) (cs : List C), (ag = false → ∃ c, cs = [c]) → (V.ofCells ag cs).pair = (ag, cs) := by
        intro ag cs hc
        cases ag with
        | true => rfl
        | false => obtain ⟨c, rfl⟩ := hc rfl; rfl
      show RepP m N _ hd2 (V.ofCells a.isAgg (inj a x.1 s b).cs).pair u
      rw [e]
      · exact k.2
      · intro ha
        rw [if_neg (by simp [ha])] at hu
        have hl := r1.len
        rw [hu] at hl
        match (inj a x.1 s b).cs, hl with
        | [c], _ => exact ⟨c, rfl⟩
  | _ => intro x s b hd F I us G h; cases us <;> exact h.elim

/-- What a call gives back of its arguments stands for data. -/
def RepBack (m : Mem) (N : Nat → Prop) : (io : List Bool) → (τs : Ty) → (ioTy io τs).den → List Value → List Nat → Prop
  | true :: io, .cons a r, z, u :: us, F => ∃ F1 F2, F = F1 ++ F2 ∧ RepA m N a z.1 u F1 ∧ RepBack m N io r z.2 us F2
  | false :: io, .cons _ r, z, _ :: us, F => RepBack m N io r z us F
  | [], .nil, _, [], F => F = []
  | _, _, _, _, _ => False

theorem RepBack.mono {m m' : Mem} {N N' : Nat → Prop} (hN : ∀ b, N b → N' b ∧ m' b = m b) : ∀ {io : List Bool} {τs : Ty} {z : (ioTy io τs).den} {us : List Value} {F : List Nat}, (∀ g ∈ F, m' g = m g) → RepBack m N io τs z us F → RepBack m' N' io τs z us F
  | true :: io, .cons a r, _, _ :: _, _, hF, ⟨F1, F2, e, h1, h2⟩ => by
    subst e
    exact ⟨F1, F2, rfl, h1.mono hN (fun g hg => hF g (List.mem_append_left _ hg)), RepBack.mono hN (fun g hg => hF g (List.mem_append_right _ hg)) h2⟩
  | false :: io, .cons _ r, _, _ :: _, _, hF, h => RepBack.mono (io := io) (τs := r) hN hF h
  | [], .nil, _, [], _, _, h => h

theorem RepBack.flat {m : Mem} {N N' : Nat → Prop} : ∀ {io : List Bool} {τs : Ty} {z : (ioTy io τs).den} {us : List Value} {F : List Nat}, (ioTy io τs).flat = true → RepBack m N io τs z us F → RepBack m N' io τs z us F
  | true :: io, .cons a r, _, _ :: _, _, hf, ⟨F1, F2, e, h1, h2⟩ => by
    simp only [ioTy, Ty.flat, Bool.and_eq_true] at hf
    exact ⟨F1, F2, e, h1.flat hf.1, RepBack.flat hf.2 h2⟩
  | false :: io, .cons _ r, _, _ :: _, _, hf, h => RepBack.flat (io := io) (τs := r) hf h
  | [], .nil, _, [], _, _, h => h

/-- The owned part of an object comes back. -/
theorem back_own {N : Nat → Prop} {s : Sto} {F : Nat → List Nat} (I : SInv m N s hd F size) (id : Nat) (o : Obj) (G : List Nat) (hG : Fresh N F size G) (hF : F id = [])
    (h1 : o.isV = true → (s id).2.isV = true ∧ o.esz = (s id).2.esz ∧ (s id).2.vlen ≤ o.vlen) (h2 : o.isB = true → (s id).2.isB = true) (ho : ∀ s', Goes s s' hd hd → ObjRep m N s' hd o (hd id) G) :
    SInv m N (s.set id ((s id).1, o)) hd (fun i => if i = id then G else F i) size ∧ Goes s (s.set id ((s id).1, o)) hd hd := by
  have hg := Goes.set_like (s := s) (hd := hd) id o h1 h2
  exact ⟨I.upd id _ G (Nat.le_refl _) (fun b hb => ⟨hb, rfl⟩) (fun k hk => ⟨I.ltN k hk, fun i _ hki => I.sep i k hki hk, fun h => hG.n k h hk⟩) (fun _ _ _ _ => rfl) hG.nod (fun k hk => ⟨hG.lt k hk, fun i _ => hG.f k hk i⟩) hg (fun _ _ => rfl) (ho _ hg), hg⟩

structure BackOK (m : Mem) (N : Nat → Prop) (s : Sto) (hd : Nat → Value) (F : Nat → List Nat) (size : Nat) (G : List Nat) (s' : Sto) (ids : List Nat) (b b' : Nat) (hd' : Nat → Value) (F' : Nat → List Nat) : Prop where
  inv : SInv m N s' hd' F' size
  goes : Goes s s' hd hd'
  loc : ∀ i, i ∉ ids → s' i = s i ∧ F' i = F i ∧ hd' i = hd i
  sub : ∀ i k, k ∈ F' i → k ∈ F i ∨ k ∈ G

theorem BackOK.seq {N : Nat → Prop} {s s1 s2 : Sto} {hd hd1 hd2 : Nat → Value} {F F1 F2 : Nat → List Nat} {G1 G2 : List Nat} {i1 i2 : List Nat} {b b1 b2 : Nat} (h1 : BackOK m N s hd F size G1 s1 i1 b b1 hd1 F1) (h2 : BackOK m N s1 hd1 F1 size G2 s2 i2 b1 b2 hd2 F2) :
    BackOK m N s hd F size (G1 ++ G2) s2 (i1 ++ i2) b b2 hd2 F2 where
  inv := h2.inv
  goes := h1.goes.trans h2.goes
  loc := fun i hi => by
    have a1 := h1.loc i (fun h => hi (List.mem_append_left _ h))
    have a2 := h2.loc i (fun h => hi (List.mem_append_right _ h))
    exact ⟨a2.1.trans a1.1, a2.2.1.trans a1.2.1, a2.2.2.trans a1.2.2⟩
  sub := fun i k hk => by
    rcases h2.sub i k hk with h | h
    · rcases h1.sub i k h with h | h
      · exact .inl h
      · exact .inr (List.mem_append_left _ h)
    · exact .inr (List.mem_append_right _ h)

theorem back_one {N : Nat → Prop} {s : Sto} {F : Nat → List Nat} (I : SInv m N s hd F size) (id v : Nat) (o o' : Obj) (hs : s id = (v, o')) (G : List Nat) (hG : Fresh N F size G)
    (h1 : o.isV = true → o'.isV = true ∧ o.esz = o'.esz ∧ o'.vlen ≤ o.vlen) (h2 : o.isB = true → o'.isB = true) (ho : ∀ s', Goes s s' hd hd → ObjRep m N s' hd o (hd id) G) (b : Nat) :
    BackOK m N s hd F size G (s.set id (v, o)) [id] b b hd (fun i => if i = id then G else F i) := by
  have hg := Goes.set_like (s := s) (hd := hd) id o (by rw [hs]; exact h1) (by rw [hs]; exact h2)
  have hv : (s id).1 = v := by rw [hs]
  rw [hv] at hg
  refine ⟨I.upd id _ G (Nat.le_refl _) (fun b hb => ⟨hb, rfl⟩) (fun k hk => ⟨I.ltN k hk, fun i _ hki => I.sep i k hki hk, fun h => hG.n k h hk⟩) (fun _ _ _ _ => rfl) hG.nod (fun k hk => ⟨hG.lt k hk, fun i _ => hG.f k hk i⟩) hg (fun _ _ => rfl) (ho _ hg), hg, fun i hi => ?_, fun i k hk => ?_⟩
  · have e : i ≠ id := fun h => hi (by simp [h])
    exact ⟨Sto.set_ne _ _ e, by simp [e], rfl⟩
  · by_cases e : i = id
    · simp only [e, if_true] at hk; exact .inr hk
    · simp only [e, if_false] at hk; exact .inl hk

theorem BackOK.none {N : Nat → Prop} {s : Sto} {F : Nat → List Nat} (I : SInv m N s hd F size) (G : List Nat) (b : Nat) : BackOK m N s hd F size G s [] b b hd F :=
  ⟨I, Goes.refl s hd, fun _ _ => ⟨rfl, rfl, rfl⟩, fun _ _ h => .inl h⟩

theorem backCs_ok {N : Nat → Prop} : ∀ (τ : Ty) (cs : List C) (z : τ.den) (s : Sto) (b : Nat) (l : Inj (List C)), backCs τ cs z s b = some l → ∀ {hd : Nat → Value} {F : Nat → List Nat}, SInv m N s hd F size → ∀ {v1 v2 : List Value} {G : List Nat}, RepCs m N s hd cs (v1 ++ v2) →
    RepT m N τ z v1 G → Fresh N F size G → ∃ hd' F', BackOK m N s hd F size G l.s l.ids b l.b hd' F' ∧ RepCs m N l.s hd' l.cs v2 := by
  intro τ
  induction τ with
  | agg fs ih => intro cs z s b l h hd F I v1 v2 G hc hz hG; exact ih cs z s b l h I hc hz hG
  | nil =>
    intro cs z s b l h hd F I v1 v2 G hc hz hG
    obtain rfl := Option.some.inj h
    obtain ⟨rfl, rfl⟩ := hz
    exact ⟨hd, F, BackOK.none I [] b, hc⟩
  | cons a r iha ihr =>
    intro cs z s b l h hd F I v1 v2 G hc hz hG
    simp only [backCs] at h
    split at h
    · cases h
    · rename_i p hp
      split at h
      · cases h
      · rename_i q hq
        obtain rfl := Option.some.inj h
        obtain ⟨c1, c2, F1, F2, rfl, rfl, z1, z2⟩ := hz
        rw [List.append_assoc] at hc
        obtain ⟨hd1, G1, k1, r1⟩ := iha cs z.1 s b p hp I hc z1 hG.left
        obtain ⟨hd2, G2, k2, r2⟩ := ihr p.cs z.2 p.s p.b q hq k1.inv r1 z2 (hG.right k1.sub)
        exact ⟨hd2, G2, k1.seq k2, r2⟩
  | own e _ =>
    intro cs z s b l h hd F I v1 v2 G hc hz hG
    have hl := hz.len
    match v1, hl with
    | [u], _ =>
      simp only [backCs] at h
      split at h
      · rename_i id ver r
        split at h
        · rename_i w e' xs hs
          split at h
          · rename_i hcond
            obtain ⟨rfl, rfl⟩ := hcond
            obtain rfl := Option.some.inj h
            have hu := RepC.own_hd hc.1 hs rfl
            subst hu
            have hob := I.obj id
            rw [hs] at hob
            obtain ⟨_, a1, cap1, hl1⟩ := hob
            obtain ⟨a2, cap2, hl2⟩ := RepT.own_len hz
            rw [hl1] at hl2
            injection hl2 with _ hl _
            have k := back_one I id w (.vec e' z) _ hs G hG (fun _ => ⟨rfl, rfl, by show List.length xs ≤ List.length z; omega⟩) (by simp [Obj.isB]) (fun s' _ => hz) b
            exact ⟨_, _, k, RepCs.goes (fun b hb => ⟨hb, rfl⟩) k.goes hc.2⟩
          · cases h
        · cases h
      · obtain rfl := Option.some.inj h
        exact ⟨hd, F, BackOK.none I G b, hc.2⟩
      · cases h
  | box e _ => intro cs z s b l h; cases h
  | map _ _ =>
    intro cs z s b l h
    simp only [backCs, Ty.isImm] at h
    cases cs <;> simp at h
  | bool | int _ | str | tree | unk | sl _ _ | ptr _ _ | fn _ _ _ =>
    intro cs z s b l h hd F I v1 v2 G hc hz hG
    have hl := hz.len
    match v1, hl with
    | [u], _ =>
      cases cs with
      | nil => cases h
      | cons c r =>
        simp only [backCs] at h
        split at h
        · obtain rfl := Option.some.inj h
          exact ⟨hd, F, BackOK.none I G b, hc.2⟩
        · cases h

theorem back1_ok {N : Nat → Prop} {v : V} {s : Sto} {b : Nat} {F : Nat → List Nat} (I : SInv m N s hd F size) {u : Value} (hv : RepV m N s hd v u) : ∀ (a : Ty) (z : a.den) (l : Inj Unit), back1 v s b a z = some l → ∀ {G : List Nat},
    RepA m N a z u G → Fresh N F size G → ∃ hd' F', BackOK m N s hd F size G l.s l.ids b l.b hd' F' := by
  intro a z l h G hz hG
  cases a with
  | own e =>
    have hz' : RepT m N (.own e) z [u] G := by simpa [RepA, Ty.isAgg] using hz
    simp only [back1] at h
    split at h
    · rename_i id ver
      split at h
      · rename_i w e' xs hs
        split at h
        · rename_i hc
          obtain ⟨rfl, rfl⟩ := hc
          obtain rfl := Option.some.inj h
          have hu := RepC.own_hd (m := m) (N := N) (show RepC m N s hd (.own id w) u from hv) hs rfl
          subst hu
          have hob := I.obj id
          rw [hs] at hob
          obtain ⟨_, a1, cap1, hl1⟩ := hob
          obtain ⟨a2, cap2, hl2⟩ := RepT.own_len hz'
          rw [hl1] at hl2
          injection hl2 with _ hl _
          exact ⟨_, _, back_one I id w (.vec e' z) _ hs G hG (fun _ => ⟨rfl, rfl, by show List.length xs ≤ List.length z; omega⟩) (by simp [Obj.isB]) (fun s' _ => hz') b⟩
        · cases h
      · cases h
    · obtain rfl := Option.some.inj h
      exact ⟨hd, F, I, Goes.refl s hd, fun _ _ => ⟨rfl, rfl, rfl⟩, fun _ _ h => .inl h⟩
    · cases h
  | box e =>
    have hz' : RepT m N (.box e) z [u] G := by simpa [RepA, Ty.isAgg] using hz
    simp only [back1] at h
    split at h
    · rename_i id ver
      split at h
      · rename_i w hs
        split at h
        · rename_i hc
          subst hc
          obtain rfl := Option.some.inj h
          obtain ⟨g, es, T, G', e1, hc, hr, e2⟩ := hz'
          subst e2
          have hG' : Fresh N F size G' := ⟨(List.nodup_cons.1 hG.nod).2, fun k hk => hG.lt k (List.mem_cons_of_mem _ hk), fun k hk => hG.n k (List.mem_cons_of_mem _ hk), fun k hk => hG.f k (List.mem_cons_of_mem _ hk)⟩
          obtain ⟨hd1, F1, k1, r1⟩ := inj_ok e z s b I hr hG'
          have hu := (RepV.goes (v := .one (.bp id w 0)) (fun b hb => ⟨hb, rfl⟩) k1.goes hv : RepC m N _ hd1 (.bp id w 0) u)
          have hob := k1.inv.obj id
          rw [hs] at hob
          obtain ⟨g', e3, e4⟩ := hu.2.2 (by rw [hs]) (by rw [hs]; rfl)
          have e5 : g' = g := by
            rw [e4] at e1
            simpa using e1
          subst e5
          have hg : Fresh N F1 size [g'] := ⟨by simp, by simpa using hG.lt g' (by simp), by simpa using hG.n g' (by simp), fun k hk i hi => by
            simp at hk; subst hk
            rcases k1.sub i k hi with h | h
            · exact hG.f k (by simp) i h
            · exact (List.nodup_cons.1 hG.nod).1 h⟩
          have k2 := back_one k1.inv id w (.box (inj e z s b).cs) _ hs [g'] hg (by simp [Obj.isV]) (fun _ => rfl) (fun s' hgo => ⟨g', es, T, e3, hc, r1.goes (fun b hb => ⟨hb, rfl⟩) hgo, rfl⟩) (inj e z s b).b
          have k1' : BackOK m N s hd F size G' (inj e z s b).s (inj e z s b).ids b (inj e z s b).b hd1 F1 := ⟨k1.inv, k1.goes, k1.loc, k1.sub⟩
          have k3 := k1'.seq k2
          refine ⟨_, _, k3.inv, k3.goes, k3.loc, fun i k hk => ?_⟩
          rcases k3.sub i k hk with h | h
          · exact .inl h
          · rcases List.mem_append.1 h with h | h
            · exact .inr (List.mem_cons_of_mem _ h)
            · simp at h; subst h; exact .inr (List.mem_cons_self ..)
        · cases h
      · cases h
    · cases h
  | map e =>
    have hz' : RepT m N (.map e) z [u] G := by simpa [RepA, Ty.isAgg] using hz
    simp only [back1] at h
    split at h
    · rename_i id ver
      split at h
      · rename_i w hs
        split at h
        · rename_i hc
          subst hc
          obtain rfl := Option.some.inj h
          have hv' : RepC m N s hd (.mp id w) u := hv
          have hu : u = hd id := hv'.2.2 (by rw [hs]) (by rw [hs]; rfl)
          subst hu
          exact ⟨_, _, back_one I id w (.mapo e z) _ hs G hG (by simp [Obj.isV]) (fun _ => rfl) (fun s' _ => hz') b⟩
        · cases h
      · cases h
    · cases h
  | agg fs =>
    simp only [back1] at h
    split at h
    · rename_i cs
      split at h
      · rename_i s' b' ids hb
        obtain rfl := Option.some.inj h
        obtain ⟨us, hus, hz'⟩ : ∃ us, u = .agg ⟨us⟩ ∧ RepT m N (.agg fs) z us G := by
          obtain ⟨cs', k1, k2⟩ := hz.rep
          exact ⟨cs', by simpa [Ty.isAgg] using k2, k1⟩
        obtain ⟨vs, hvs, hcs⟩ := hv
        rw [hus] at hvs
        have hvs' : us = vs := by injection hvs with h1; injection h1
        subst hvs'
        obtain ⟨hd', F', k, _⟩ := backCs_ok fs cs z s b _ hb I (v1 := us) (v2 := []) (by rw [List.append_nil]; exact hcs) hz' hG
        exact ⟨hd', F', k⟩
      · cases h
    · cases h
  | _ => cases h

theorem back_ok {N : Nat → Prop} : ∀ (io : List Bool) (τs : Ty) (vs : List V) (z : (ioTy io τs).den) (s : Sto) (b : Nat) (l : Inj Unit), back io τs vs z s b = some l → ∀ {hd : Nat → Value} {F : Nat → List Nat}, SInv m N s hd F size → ∀ {us : List Value} {G : List Nat}, RepVs m N s hd vs us →
    RepBack m N io τs z us G → Fresh N F size G → ∃ hd' F', BackOK m N s hd F size G l.s l.ids b l.b hd' F' := by
  intro io
  induction io with
  | nil =>
    intro τs vs z s b l h hd F I us G hv hz hG
    cases τs with
    | nil =>
      cases vs with
      | nil =>
        obtain rfl := Option.some.inj h
        cases us with
        | nil =>
          have e : G = [] := hz
          subst e
          exact ⟨hd, F, I, Goes.refl s hd, fun _ _ => ⟨rfl, rfl, rfl⟩, fun _ _ h => .inl h⟩
        | cons _ _ => exact hv.elim
      | cons _ _ => cases h
    | _ => cases vs <;> cases h
  | cons i io ih =>
    intro τs vs z s b l h hd F I us G hv hz hG
    cases τs with
    | cons a r =>
      cases vs with
      | nil => cases i <;> cases h
      | cons v vs =>
        cases us with
        | nil => exact hv.elim
        | cons u us =>
          cases i with
          | false => exact ih r vs z s b l h I hv.2 hz hG
          | true =>
            obtain ⟨G1, G2, e, h1, h2⟩ := hz
            subst e
            simp only [back] at h
            split at h
            · rename_i l1 hl1
              split at h
              · rename_i l2 hl2
                obtain rfl := Option.some.inj h
                obtain ⟨hd1, F1, k1⟩ := back1_ok I hv.1 a z.1 l1 hl1 h1 hG.left
                obtain ⟨hd2, F2, k2⟩ := ih r vs z.2 l1.s l1.b l2 hl2 k1.inv (RepVs.goes (fun b hb => ⟨hb, rfl⟩) k1.goes hv.2) h2 (hG.right k1.sub)
                exact ⟨hd2, F2, k1.seq k2⟩
              · cases h
            · cases h
    | _ => cases i <;> cases vs <;> cases h

end

end Go.Proofs.YtofkhmedmeihiaaPn.Ev
