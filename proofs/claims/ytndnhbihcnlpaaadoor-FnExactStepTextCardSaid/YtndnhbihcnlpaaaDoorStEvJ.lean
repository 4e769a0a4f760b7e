/- Texts laid together: EvF, EvG, EvH, EvI, EvJ; no condition but those that each theorem names. -/
import Derived.Test.YtndnhbihcnlpaaaDoorStEvE
import Derived.Laws.Slices
import Derived.Laws.MakeOwn
import Derived.Laws.BytesArg
import Derived.Laws.Small
import Derived.MapKept
/- The evaluator: several values at once, and what a call gives back. -/
namespace Go.Proofs.YtndnhbihcnlpaaaDoorSt.Ev
open Go

/-- A value stands for data of a type. -/
def RepA (m : Mem) (N : Nat → Prop) (a : Ty) (x : a.den) (u : Value) (F : List Nat) : Prop :=
  if a.isAgg = true then ∃ cs, u = .agg ⟨cs⟩ ∧ RepT m N a x cs F else RepT m N a x [u] F

/-- Values, one for each field of a list of types. -/
def RepAs (m : Mem) (N : Nat → Prop) : (τs : Ty) → τs.den → List Value → List Nat → Prop
  | .nil, _, us, F => us = [] ∧ F = []
  | .cons a r, x, u :: us, F => ∃ F1 F2, F = F1 ++ F2 ∧ RepA m N a x.1 u F1 ∧ RepAs m N r x.2 us F2
  | _, _, _, _ => False

theorem RepA.mono {m m' : Mem} {N N' : Nat → Prop} (hN : ∀ b, N b → N' b ∧ m' b = m b) {a : Ty} {x : a.den} {u : Value} {F : List Nat} (hF : ∀ g ∈ F, m' g = m g) (h : RepA m N a x u F) : RepA m' N' a x u F := by
  unfold RepA at *
  split
  · rename_i ha
    rw [if_pos ha] at h
    obtain ⟨cs, h1, h2⟩ := h
    exact ⟨cs, h1, RepT.mono hN hF h2⟩
  · rename_i ha
    rw [if_neg ha] at h
    exact RepT.mono hN hF h

theorem RepAs.mono {m m' : Mem} {N N' : Nat → Prop} (hN : ∀ b, N b → N' b ∧ m' b = m b) : ∀ {τs : Ty} {x : τs.den} {us : List Value} {F : List Nat}, (∀ g ∈ F, m' g = m g) → RepAs m N τs x us F → RepAs m' N' τs x us F
  | .nil, _, _, _, _, h => h
  | .cons a r, _, _ :: _, _, hF, ⟨F1, F2, e, h1, h2⟩ => by
    subst e
    exact ⟨F1, F2, rfl, h1.mono hN (fun g hg => hF g (List.mem_append_left _ hg)), RepAs.mono hN (fun g hg => hF g (List.mem_append_right _ hg)) h2⟩

/-- Data that reach no shared memory don't ask what is shared. -/
theorem RepT.flat {m : Mem} {N N' : Nat → Prop} : ∀ {τ : Ty} {x : τ.den} {cs : List Value} {F : List Nat}, τ.flat = true → RepT m N τ x cs F → RepT m N' τ x cs F
  | .bool, _, _, _, _, h | .int _, _, _, _, _, h | .str, _, _, _, _, h | .nil, _, _, _, _, h => h
  | .own e, xs, _, _, hf, h => by
    rcases h with h | ⟨g, cap, c, T, es, Fs, h1, h2, h3, h4, h5, h6, h7, h8, h9, h10⟩
    · exact .inl h
    · exact .inr ⟨g, cap, c, T, es, Fs, h1, h2, h3, h4, h5, h6, h7, fun i hi hi' hi'' => RepT.flat (τ := e) hf (h8 i hi hi' hi''), h9, h10⟩
  | .agg fs, _, _, _, hf, h => RepT.flat (τ := fs) hf h
  | .cons a r, _, _, _, hf, ⟨c1, c2, F1, F2, h1, h2, h3, h4⟩ => by
    simp only [Ty.flat, Bool.and_eq_true] at hf
    exact ⟨c1, c2, F1, F2, h1, h2, RepT.flat hf.1 h3, RepT.flat hf.2 h4⟩
  | .sl _, _, _, _, hf, _ | .ptr _, _, _, _, hf, _ | .box _, _, _, _, hf, _ | .fn _ _, _, _, _, hf, _ | .tree, _, _, _, hf, _ | .mv _, _, _, _, hf, _ | .imap _, _, _, _, hf, _ | .iter _, _, _, _, hf, _ | .optr _, _, _, _, hf, _ => by simp [Ty.flat] at hf
  | .unk, _, _, _, _, h | .opq, _, _, _, _, h => h
  | .map e, _, _, _, hf, ⟨g, es, clock, h1, h2, h3, h4, h5⟩ => ⟨g, es, clock, h1, h2, h3, fun i h h' => ⟨(h4 i h h').1, RepT.flat hf (h4 i h h').2⟩, h5⟩

theorem RepA.flat {m : Mem} {N N' : Nat → Prop} {a : Ty} {x : a.den} {u : Value} {F : List Nat} (hf : a.flat = true) (h : RepA m N a x u F) : RepA m N' a x u F := by
  unfold RepA at *
  split
  · rename_i ha; rw [if_pos ha] at h; obtain ⟨cs, h1, h2⟩ := h; exact ⟨cs, h1, h2.flat hf⟩
  · rename_i ha; rw [if_neg ha] at h; exact RepT.flat hf h

theorem RepAs.flat {m : Mem} {N N' : Nat → Prop} : ∀ {τs : Ty} {x : τs.den} {us : List Value} {F : List Nat}, τs.flat = true → RepAs m N τs x us F → RepAs m N' τs x us F
  | .nil, _, _, _, _, h => h
  | .cons a r, _, _ :: _, _, hf, ⟨F1, F2, e, h1, h2⟩ => by
    simp only [Ty.flat, Bool.and_eq_true] at hf
    exact ⟨F1, F2, e, h1.flat hf.1, RepAs.flat hf.2 h2⟩

def RepVs (m : Mem) (N : Nat → Prop) (s : Sto) (hd : Nat → Value) : List V → List Value → Prop
  | [], [] => True
  | v :: vs, u :: us => RepV m N s hd v u ∧ RepVs m N s hd vs us
  | _, _ => False

theorem RepVs.goes {m m' : Mem} {N N' : Nat → Prop} {s s' : Sto} {hd hd' : Nat → Value} (hN : ∀ b, N b → N' b ∧ m' b = m b) (g : Goes s s' hd hd') : ∀ {vs : List V} {us : List Value}, RepVs m N s hd vs us → RepVs m' N' s' hd' vs us
  | [], [], _ => trivial
  | _ :: _, _ :: _, ⟨h1, h2⟩ => ⟨RepV.goes hN g h1, RepVs.goes hN g h2⟩

theorem RepVs.append {m : Mem} {N : Nat → Prop} {s : Sto} {hd : Nat → Value} : ∀ {a b : List V} {u v : List Value}, RepVs m N s hd a u → RepVs m N s hd b v → RepVs m N s hd (a ++ b) (u ++ v)
  | [], _, [], _, _, h => h
  | _ :: _, _, _ :: _, _, ⟨h1, h2⟩, h => ⟨h1, RepVs.append h2 h⟩

/-- What the projection of several values leaves. -/
structure PrsOK (lend : Bool) (m : Mem) (N : Nat → Prop) (s : Sto) (hd : Nat → Value) (F : Nat → List Nat) (size : Nat) (m0 : List Nat) (τs : Ty) (x : τs.den) (s' : Sto) (m1 : List Nat) (us : List Value) (N' : Nat → Prop) (F' : Nat → List Nat) (G : List Nat) : Prop where
  rep : RepAs m (Sn lend N' s' F') τs x us G
  inv : SInv m N' s' hd F' size
  goes : Goes s s' hd hd
  vers : ∀ i, (s' i).1 = (s i).1
  up : ∀ k, N k → N' k
  new : ∀ k, N' k → N k ∨ ∃ i, k ∈ F i
  sub : ∀ i k, k ∈ F' i → k ∈ F i
  nod : G.Nodup
  own : ∀ k ∈ G, (∃ i, k ∈ F i) ∧ ¬ N' k ∧ ∀ i, k ∉ F' i
  acc : ∀ i ∈ m0, i ∈ m1
  loc : ∀ i, i ∉ m1 → s' i = s i ∧ F' i = F i
  keep : ∀ i, (s i).2.isL = true → s' i = s i ∧ F' i = F i
  vk : ∀ i (e : Ty) (xs : List e.den), (s' i).2 = .vec e xs → s' i = s i ∧ F' i = F i
  lv : ∀ i, (s' i).2.isL = true → F' i = F i ∧ (s' i = s i ∨ ∃ (e : Ty) (xs : List e.den), s' i = ((s i).1, .lvec e xs) ∧ (s i).2 = .vec e xs)

section
variable {m : Mem} {hd : Nat → Value} {size : Nat}

theorem prFs_ok (lend : Bool) : ∀ (τs : Ty) (vs : List V) (s : Sto) (m0 : List Nat) (q : Pr τs.den), prFs lend τs vs s m0 = some q → ∀ {N : Nat → Prop} {F : Nat → List Nat}, SInv m N s hd F size → ∀ {us : List Value}, RepVs m N s hd vs us →
    ∃ N' F' G, PrsOK lend m N s hd F size m0 τs q.x q.s q.m us N' F' G := by
  intro τs
  induction τs with
  | nil =>
    intro vs s m0 q h N F I us hv
    cases vs with
    | nil =>
      obtain rfl := Option.some.inj h
      cases us with
      | nil => exact ⟨N, F, [], ⟨rfl, rfl⟩, I, Goes.refl s hd, fun _ => rfl, fun _ h => h, fun _ h => .inl h, fun _ _ h => h, List.nodup_nil, by simp, fun _ h => h, fun _ _ => ⟨rfl, rfl⟩, fun _ _ => ⟨rfl, rfl⟩, fun _ _ _ _ => ⟨rfl, rfl⟩, fun _ _ => ⟨rfl, .inl rfl⟩⟩
      | cons _ _ => exact hv.elim
    | cons _ _ => cases h
  | cons a r _ ihr =>
    intro vs s m0 q h N F I us hv
    cases vs with
    | nil => cases h
    | cons v vs =>
      cases us with
      | nil => exact hv.elim
      | cons u us =>
        simp only [prFs] at h
        split at h
        · rename_i hfit
          split at h
          · rename_i x s1 m1 hp
            split at h
            · rename_i q' hq
              obtain rfl := Option.some.inj h
              obtain ⟨hv1, hv2⟩ := hv
              have key : ∃ cs, RepCs m N s hd v.cells cs ∧ (∀ N' G, RepT m N' a x cs G → RepA m N' a x u G) := by
                cases v with
                | one c =>
                  simp [V.fits] at hfit
                  refine ⟨[u], ⟨hv1, trivial⟩, fun N' G k => ?_⟩
                  unfold RepA; rw [if_neg (by simp [hfit.1])]; exact k
                | agg cs =>
                  obtain ⟨ws, e, h1⟩ := hv1
                  refine ⟨ws, h1, fun N' G k => ?_⟩
                  unfold RepA; rw [if_pos (show a.isAgg = true from hfit)]; exact ⟨ws, e, k⟩
                | _ => simp [V.fits] at hfit
              obtain ⟨cs, hcs, hA⟩ := key
              obtain ⟨v1, v2, N1, F1, G1, k⟩ := pr_ok lend a v.cells s m0 _ hp I hcs
              replace k : PrOK lend m N s hd F size m0 a x [] s1 m1 cs v1 v2 N1 F1 G1 := k
              have e2 := RepCs.nil_inv k.rest
              have e1 := k.vs
              rw [e2, List.append_nil] at e1
              subst e1
              obtain ⟨N2, F2, G2, k2⟩ := ihr vs s1 m1 q' hq k.inv (RepVs.goes (fun b hb => ⟨k.up b hb, rfl⟩) k.goes hv2)
              refine ⟨N2, F2, G1 ++ G2, ?_⟩
              exact
              { rep := ⟨G1, G2, rfl, (hA _ G1 k.rep).mono (fun b hb => ⟨Sn.go k2.up k2.keep hb, rfl⟩) (fun _ _ => rfl), k2.rep⟩
                inv := k2.inv
                goes := k.goes.trans k2.goes
                vers := fun i => (k2.vers i).trans (k.vers i)
                up := fun j hj => k2.up j (k.up j hj)
                new := fun j hj => by
                  rcases k2.new j hj with h | ⟨i, h⟩
                  · exact k.new j h
                  · exact .inr ⟨i, k.sub i j h⟩
                sub := fun i j hj => k.sub i j (k2.sub i j hj)
                nod := by
                  rw [List.nodup_append]
                  refine ⟨k.nod, k2.nod, fun j hj j' hj' e => ?_⟩
                  subst e
                  obtain ⟨⟨i, hi⟩, _⟩ := k2.own j hj'
                  exact (k.own j hj).2.2 i hi
                own := fun j hj => by
                  rcases List.mem_append.1 hj with hj | hj
                  · refine ⟨(k.own j hj).1, fun hn => ?_, fun i hi => (k.own j hj).2.2 i (k2.sub i j hi)⟩
                    rcases k2.new j hn with h | ⟨i, h⟩
                    · exact (k.own j hj).2.1 h
                    · exact (k.own j hj).2.2 i h
                  · obtain ⟨⟨i, hi⟩, h3, h4⟩ := k2.own j hj
                    exact ⟨⟨i, k.sub i j hi⟩, h3, h4⟩
                acc := fun i hi => k2.acc i (k.acc i hi)
                loc := fun i hi => by
                  have hi1 : i ∉ m1 := fun h => hi (k2.acc i h)
                  exact ⟨(k2.loc i hi).1.trans (k.loc i hi1).1, (k2.loc i hi).2.trans (k.loc i hi1).2⟩
                keep := fun i hi => by
                  have q1 := k.keep i hi
                  have q2 := k2.keep i (by rw [q1.1]; exact hi)
                  exact ⟨q2.1.trans q1.1, q2.2.trans q1.2⟩
                vk := fun i e xs hi => by
                  have q2 := k2.vk i e xs hi
                  have q1 := k.vk i e xs (by rw [← q2.1]; exact hi)
                  exact ⟨q2.1.trans q1.1, q2.2.trans q1.2⟩
                lv := fun i hi => by
                  obtain ⟨e2, h⟩ := k2.lv i hi
                  rcases h with h | ⟨e, xs, h3, h4⟩
                  · obtain ⟨e1, h'⟩ := k.lv i (by rw [← h]; exact hi)
                    rcases h' with h' | ⟨e, xs, h3, h4⟩
                    · exact ⟨e2.trans e1, .inl (h.trans h')⟩
                    · exact ⟨e2.trans e1, .inr ⟨e, xs, by rw [h, h3], h4⟩⟩
                  · obtain ⟨q1, q2⟩ := k.vk i e xs h4
                    exact ⟨e2.trans q2, .inr ⟨e, xs, by rw [h3, q1], by rw [← q1]; exact h4⟩⟩ }
            · cases h
          · cases h
        · cases h
  | _ => intro vs s m0 q h; cases vs <;> cases h

theorem prFs_loc (lend : Bool) : ∀ (τs : Ty) (vs : List V) (s : Sto) (m0 : List Nat) (q : Pr τs.den), prFs lend τs vs s m0 = some q → (∀ i ∈ m0, i ∈ q.m) ∧ ∀ i, i ∉ q.m → q.s i = s i := by
  intro τs
  induction τs with
  | nil =>
    intro vs s m0 q h
    cases vs with
    | nil => obtain rfl := Option.some.inj h; exact ⟨fun _ h => h, fun _ _ => rfl⟩
    | cons _ _ => cases h
  | cons a r _ ihr =>
    intro vs s m0 q h
    cases vs with
    | nil => cases h
    | cons v vs =>
      simp only [prFs] at h
      split at h
      · split at h
        · rename_i x s1 m1 hp
          split at h
          · rename_i q' hq
            obtain rfl := Option.some.inj h
            have h1 := pr_loc lend a _ _ _ _ hp; have h2 := ihr _ _ _ _ hq
            exact ⟨fun i hi => h2.1 i (h1.1 i hi), fun i hi => (h2.2 i hi).trans (h1.2 i (fun h => hi (h2.1 i h)))⟩
          · cases h
        · cases h
      · cases h
  | _ => intro vs s m0 q h; cases vs <;> cases h

theorem prFs_alike (lend : Bool) : ∀ (τs : Ty) (vs : List V) (s : Sto) (m0 : List Nat) (q : Pr τs.den), prFs lend τs vs s m0 = some q → ∀ (M : List Nat), (∀ i ∈ q.m, i ∈ M) → ∀ (s2 : Sto), (∀ i ∈ M, s2 i = s i) →
    ∃ q2 : Pr τs.den, prFs lend τs vs s2 m0 = some q2 ∧ q2.x = q.x ∧ q2.m = q.m ∧ ∀ i ∈ M, q2.s i = q.s i := by
  intro τs
  induction τs with
  | nil =>
    intro vs s m0 q h M hM s2 hs
    cases vs with
    | nil => obtain rfl := Option.some.inj h; exact ⟨_, rfl, rfl, rfl, hs⟩
    | cons _ _ => cases h
  | cons a r _ ihr =>
    intro vs s m0 q h M hM s2 hs
    cases vs with
    | nil => cases h
    | cons v vs =>
      simp only [prFs] at h ⊢
      split at h
      · rename_i hfit
        split at h
        · rename_i x s1 m1 hp
          split at h
          · rename_i q' hq
            obtain rfl := Option.some.inj h
            have h2 := prFs_loc lend r _ _ _ _ hq
            obtain ⟨t1, e1, g1⟩ := pr_alike lend a _ _ _ _ hp M (fun i hi => hM i (h2.1 i hi)) s2 hs
            obtain ⟨q2, e2, x2, m2, g2⟩ := ihr _ _ _ _ hq M hM t1 g1
            refine ⟨{ x := (x, q2.x), rest := [], s := q2.s, m := q2.m }, ?_, by simp only [x2], m2, g2⟩
            rw [if_pos hfit, e1]; simp only [e2]
          · cases h
        · cases h
      · cases h
  | _ => intro vs s m0 q h; cases vs <;> cases h

theorem RepA.rep {N : Nat → Prop} {a : Ty} {x : a.den} {u : Value} {F : List Nat} (h : RepA m N a x u F) : ∃ cs, RepT m N a x cs F ∧ (if a.isAgg = true then u = .agg ⟨cs⟩ else cs = [u]) := by
  unfold RepA at h
  split at h
  · rename_i ha; obtain ⟨cs, h1, h2⟩ := h; exact ⟨cs, h2, by rw [if_pos ha]; exact h1⟩
  · rename_i ha; exact ⟨[u], h, by rw [if_neg ha]⟩

theorem ofCells_rep {N : Nat → Prop} {s : Sto} {hd : Nat → Value} {ag : Bool} {cs : List C} {ws : List Value} {u : Value} (h : RepCs m N s hd cs ws) (hu : if ag = true then u = .agg ⟨ws⟩ else ws = [u]) : RepV m N s hd (V.ofCells ag cs) u ∧ RepP m N s hd (ag, cs) u := by
  cases ag with
  | true => exact ⟨⟨ws, hu, h⟩, ⟨ws, hu, h⟩⟩
  | false =>
    simp at hu
    subst hu
    have hl := h.len
    match cs, hl with
    | [c], _ => exact ⟨h.1, h.1⟩

theorem injFs_ok {N : Nat → Prop} : ∀ (τs : Ty) (x : τs.den) (s : Sto) (b : Nat) {hd : Nat → Value} {F : Nat → List Nat}, SInv m N s hd F size → ∀ {us : List Value} {G : List Nat}, RepAs m N τs x us G → Fresh N F size G →
    ∃ hd' F', InjOK m N s hd F size G (injFs τs x s b).s (injFs τs x s b).ids b (injFs τs x s b).b hd' F' ∧ RepVs m N (injFs τs x s b).s hd' (injFs τs x s b).cs us ∧
      RepPs m N (injFs τs x s b).s hd' ((injFs τs x s b).cs.map V.pair) us := by
  intro τs
  induction τs with
  | nil =>
    intro x s b hd F I us G h hG
    obtain ⟨rfl, rfl⟩ := h
    exact ⟨hd, F, InjOK.none I [] b, trivial, trivial⟩
  | cons a r _ ihr =>
    intro x s b hd F I us G h hG
    cases us with
    | nil => exact h.elim
    | cons u us =>
      obtain ⟨F1, F2, e, h1, h2⟩ := h
      subst e
      obtain ⟨cs, hr, hu⟩ := h1.rep
      obtain ⟨hd1, Fa, k1, r1⟩ := inj_ok a x.1 s b I hr hG.left
      obtain ⟨hd2, Fb, k2, r2, p2⟩ := ihr x.2 (inj a x.1 s b).s (inj a x.1 s b).b k1.inv h2 (hG.right k1.sub)
      have k := ofCells_rep (r1.goes (fun b hb => ⟨hb, rfl⟩) k2.goes) hu
      refine ⟨hd2, Fb, k1.seq k2, ⟨k.1, r2⟩, ?_, p2⟩
      have e : ∀ (ag : Bool) (cs : List C), (ag = false → ∃ c, cs = [c]) → (V.ofCells ag cs).pair = (ag, cs) := by
        intro ag cs hc
        cases ag with
        | true => rfl
        | false => obtain ⟨c, rfl⟩ := hc rfl; rfl
      show RepP m N _ hd2 (V.ofCells a.isAgg (inj a x.1 s b).cs).pair u
      rw [e]
      · exact k.2
      · intro ha
        rw [if_neg (by simp [ha])] at hu
        have hl := r1.len
        rw [hu] at hl
        match (inj a x.1 s b).cs, hl with
        | [c], _ => exact ⟨c, rfl⟩
  | _ => intro x s b hd F I us G h; cases us <;> exact h.elim

/-- What a call gives back of its arguments stands for data. -/
def RepBack (m : Mem) (N : Nat → Prop) : (io : List Bool) → (τs : Ty) → (ioTy io τs).den → List Value → List Nat → Prop
  | true :: io, .cons a r, z, u :: us, F => ∃ F1 F2, F = F1 ++ F2 ∧ RepA m N a z.1 u F1 ∧ RepBack m N io r z.2 us F2
  | false :: io, .cons _ r, z, _ :: us, F => RepBack m N io r z us F
  | [], .nil, _, [], F => F = []
  | _, _, _, _, _ => False

theorem RepBack.mono {m m' : Mem} {N N' : Nat → Prop} (hN : ∀ b, N b → N' b ∧ m' b = m b) : ∀ {io : List Bool} {τs : Ty} {z : (ioTy io τs).den} {us : List Value} {F : List Nat}, (∀ g ∈ F, m' g = m g) → RepBack m N io τs z us F → RepBack m' N' io τs z us F
  | true :: io, .cons a r, _, _ :: _, _, hF, ⟨F1, F2, e, h1, h2⟩ => by
    subst e
    exact ⟨F1, F2, rfl, h1.mono hN (fun g hg => hF g (List.mem_append_left _ hg)), RepBack.mono hN (fun g hg => hF g (List.mem_append_right _ hg)) h2⟩
  | false :: io, .cons _ r, _, _ :: _, _, hF, h => RepBack.mono (io := io) (τs := r) hN hF h
  | [], .nil, _, [], _, _, h => h

theorem RepBack.flat {m : Mem} {N N' : Nat → Prop} : ∀ {io : List Bool} {τs : Ty} {z : (ioTy io τs).den} {us : List Value} {F : List Nat}, (ioTy io τs).flat = true → RepBack m N io τs z us F → RepBack m N' io τs z us F
  | true :: io, .cons a r, _, _ :: _, _, hf, ⟨F1, F2, e, h1, h2⟩ => by
    simp only [ioTy, Ty.flat, Bool.and_eq_true] at hf
    exact ⟨F1, F2, e, h1.flat hf.1, RepBack.flat hf.2 h2⟩
  | false :: io, .cons _ r, _, _ :: _, _, hf, h => RepBack.flat (io := io) (τs := r) hf h
  | [], .nil, _, [], _, _, h => h

/-- The owned part of an object comes back. -/
theorem back_own {N : Nat → Prop} {s : Sto} {F : Nat → List Nat} (I : SInv m N s hd F size) (id : Nat) (o : Obj) (G : List Nat) (hG : Fresh N F size G) (hF : F id = [])
    (h1 : o.isV = true → (s id).2.isV = true ∧ o.esz = (s id).2.esz ∧ (s id).2.vlen ≤ o.vlen) (h2 : o.isB = true → (s id).2.isB = true) (ho : ∀ s', Goes s s' hd hd → ObjRep m N s' hd o (hd id) G) :
    SInv m N (s.set id ((s id).1, o)) hd (fun i => if i = id then G else F i) size ∧ Goes s (s.set id ((s id).1, o)) hd hd := by
  have hg := Goes.set_like (s := s) (hd := hd) id o h1 h2
  exact ⟨I.upd id _ G (Nat.le_refl _) (fun b hb => ⟨hb, rfl⟩) (fun k hk => ⟨I.ltN k hk, fun i _ hki => I.sep i k hki hk, fun h => hG.n k h hk⟩) (fun _ _ _ _ => rfl) hG.nod (fun k hk => ⟨hG.lt k hk, fun i _ => hG.f k hk i⟩) hg (fun _ _ => rfl) (ho _ hg), hg⟩

structure BackOK (m : Mem) (N : Nat → Prop) (s : Sto) (hd : Nat → Value) (F : Nat → List Nat) (size : Nat) (G : List Nat) (s' : Sto) (ids : List Nat) (b b' : Nat) (hd' : Nat → Value) (F' : Nat → List Nat) : Prop where
  inv : SInv m N s' hd' F' size
  goes : Goes s s' hd hd'
  loc : ∀ i, i ∉ ids → s' i = s i ∧ F' i = F i ∧ hd' i = hd i
  sub : ∀ i k, k ∈ F' i → k ∈ F i ∨ k ∈ G

theorem BackOK.seq {N : Nat → Prop} {s s1 s2 : Sto} {hd hd1 hd2 : Nat → Value} {F F1 F2 : Nat → List Nat} {G1 G2 : List Nat} {i1 i2 : List Nat} {b b1 b2 : Nat} (h1 : BackOK m N s hd F size G1 s1 i1 b b1 hd1 F1) (h2 : BackOK m N s1 hd1 F1 size G2 s2 i2 b1 b2 hd2 F2) :
    BackOK m N s hd F size (G1 ++ G2) s2 (i1 ++ i2) b b2 hd2 F2 where
  inv := h2.inv
  goes := h1.goes.trans h2.goes
  loc := fun i hi => by
    have a1 := h1.loc i (fun h => hi (List.mem_append_left _ h))
    have a2 := h2.loc i (fun h => hi (List.mem_append_right _ h))
    exact ⟨a2.1.trans a1.1, a2.2.1.trans a1.2.1, a2.2.2.trans a1.2.2⟩
  sub := fun i k hk => by
    rcases h2.sub i k hk with h | h
    · rcases h1.sub i k h with h | h
      · exact .inl h
      · exact .inr (List.mem_append_left _ h)
    · exact .inr (List.mem_append_right _ h)

theorem back_one {N : Nat → Prop} {s : Sto} {F : Nat → List Nat} (I : SInv m N s hd F size) (id v : Nat) (o o' : Obj) (hs : s id = (v, o')) (G : List Nat) (hG : Fresh N F size G)
    (h1 : o.isV = true → o'.isV = true ∧ o.esz = o'.esz ∧ o'.vlen ≤ o.vlen) (h2 : o.isB = true → o'.isB = true) (ho : ∀ s', Goes s s' hd hd → ObjRep m N s' hd o (hd id) G) (b : Nat) :
    BackOK m N s hd F size G (s.set id (v, o)) [id] b b hd (fun i => if i = id then G else F i) := by
  have hg := Goes.set_like (s := s) (hd := hd) id o (by rw [hs]; exact h1) (by rw [hs]; exact h2)
  have hv : (s id).1 = v := by rw [hs]
  rw [hv] at hg
  refine ⟨I.upd id _ G (Nat.le_refl _) (fun b hb => ⟨hb, rfl⟩) (fun k hk => ⟨I.ltN k hk, fun i _ hki => I.sep i k hki hk, fun h => hG.n k h hk⟩) (fun _ _ _ _ => rfl) hG.nod (fun k hk => ⟨hG.lt k hk, fun i _ => hG.f k hk i⟩) hg (fun _ _ => rfl) (ho _ hg), hg, fun i hi => ?_, fun i k hk => ?_⟩
  · have e : i ≠ id := fun h => hi (by simp [h])
    exact ⟨Sto.set_ne _ _ e, by simp [e], rfl⟩
  · by_cases e : i = id
    · simp only [e, if_true] at hk; exact .inr hk
    · simp only [e, if_false] at hk; exact .inl hk

theorem BackOK.none {N : Nat → Prop} {s : Sto} {F : Nat → List Nat} (I : SInv m N s hd F size) (G : List Nat) (b : Nat) : BackOK m N s hd F size G s [] b b hd F :=
  ⟨I, Goes.refl s hd, fun _ _ => ⟨rfl, rfl, rfl⟩, fun _ _ h => .inl h⟩

theorem backCs_ok {N : Nat → Prop} : ∀ (τ : Ty) (cs : List C) (z : τ.den) (s : Sto) (b : Nat) (l : Inj (List C)), backCs τ cs z s b = some l → ∀ {hd : Nat → Value} {F : Nat → List Nat}, SInv m N s hd F size → ∀ {v1 v2 : List Value} {G : List Nat}, RepCs m N s hd cs (v1 ++ v2) →
    RepT m N τ z v1 G → Fresh N F size G → ∃ hd' F', BackOK m N s hd F size G l.s l.ids b l.b hd' F' ∧ RepCs m N l.s hd' l.cs v2 := by
  intro τ
  induction τ with
  | agg fs ih => intro cs z s b l h hd F I v1 v2 G hc hz hG; exact ih cs z s b l h I hc hz hG
  | nil =>
    intro cs z s b l h hd F I v1 v2 G hc hz hG
    obtain rfl := Option.some.inj h
    obtain ⟨rfl, rfl⟩ := hz
    exact ⟨hd, F, BackOK.none I [] b, hc⟩
  | cons a r iha ihr =>
    intro cs z s b l h hd F I v1 v2 G hc hz hG
    simp only [backCs] at h
    split at h
    · cases h
    · rename_i p hp
      split at h
      · cases h
      · rename_i q hq
        obtain rfl := Option.some.inj h
        obtain ⟨c1, c2, F1, F2, rfl, rfl, z1, z2⟩ := hz
        rw [List.append_assoc] at hc
        obtain ⟨hd1, G1, k1, r1⟩ := iha cs z.1 s b p hp I hc z1 hG.left
        obtain ⟨hd2, G2, k2, r2⟩ := ihr p.cs z.2 p.s p.b q hq k1.inv r1 z2 (hG.right k1.sub)
        exact ⟨hd2, G2, k1.seq k2, r2⟩
  | own e _ =>
    intro cs z s b l h hd F I v1 v2 G hc hz hG
    have hl := hz.len
    match v1, hl with
    | [u], _ =>
      simp only [backCs] at h
      split at h
      · rename_i id ver r
        split at h
        · rename_i w e' xs hs
          split at h
          · rename_i hcond
            obtain ⟨rfl, rfl⟩ := hcond
            obtain rfl := Option.some.inj h
            have hu := RepC.own_hd hc.1 hs rfl
            subst hu
            have hob := I.obj id
            rw [hs] at hob
            obtain ⟨_, a1, cap1, hl1⟩ := hob
            obtain ⟨a2, cap2, hl2⟩ := RepT.own_len hz
            rw [hl1] at hl2
            injection hl2 with _ hl _
            have k := back_one I id w (.vec e' z) _ hs G hG (fun _ => ⟨rfl, rfl, by show List.length xs ≤ List.length z; omega⟩) (by simp [Obj.isB]) (fun s' _ => hz) b
            exact ⟨_, _, k, RepCs.goes (fun b hb => ⟨hb, rfl⟩) k.goes hc.2⟩
          · cases h
        · cases h
      · obtain rfl := Option.some.inj h
        exact ⟨hd, F, BackOK.none I G b, hc.2⟩
      · cases h
  | box e _ => intro cs z s b l h; cases h
  | map _ _ | mv _ _ =>
    intro cs z s b l h
    simp only [backCs, Ty.isImm] at h
    cases cs <;> simp at h
  | bool | int _ | str | tree | unk | opq | imap _ _ | iter _ _ | optr _ _ | sl _ _ | ptr _ _ | fn _ _ _ =>
    intro cs z s b l h hd F I v1 v2 G hc hz hG
    have hl := hz.len
    match v1, hl with
    | [u], _ =>
      cases cs with
      | nil => cases h
      | cons c r =>
        simp only [backCs] at h
        split at h
        · obtain rfl := Option.some.inj h
          exact ⟨hd, F, BackOK.none I G b, hc.2⟩
        · cases h

theorem back1_ok {N : Nat → Prop} {v : V} {s : Sto} {b : Nat} {F : Nat → List Nat} (I : SInv m N s hd F size) {u : Value} (hv : RepV m N s hd v u) : ∀ (a : Ty) (z : a.den) (l : Inj Unit), back1 v s b a z = some l → ∀ {G : List Nat},
    RepA m N a z u G → Fresh N F size G → ∃ hd' F', BackOK m N s hd F size G l.s l.ids b l.b hd' F' := by
  intro a z l h G hz hG
  cases a with
  | own e =>
    have hz' : RepT m N (.own e) z [u] G := by simpa [RepA, Ty.isAgg] using hz
    simp only [back1] at h
    split at h
    · rename_i id ver
      split at h
      · rename_i w e' xs hs
        split at h
        · rename_i hc
          obtain ⟨rfl, rfl⟩ := hc
          obtain rfl := Option.some.inj h
          have hu := RepC.own_hd (m := m) (N := N) (show RepC m N s hd (.own id w) u from hv) hs rfl
          subst hu
          have hob := I.obj id
          rw [hs] at hob
          obtain ⟨_, a1, cap1, hl1⟩ := hob
          obtain ⟨a2, cap2, hl2⟩ := RepT.own_len hz'
          rw [hl1] at hl2
          injection hl2 with _ hl _
          exact ⟨_, _, back_one I id w (.vec e' z) _ hs G hG (fun _ => ⟨rfl, rfl, by show List.length xs ≤ List.length z; omega⟩) (by simp [Obj.isB]) (fun s' _ => hz') b⟩
        · cases h
      · cases h
    · obtain rfl := Option.some.inj h
      exact ⟨hd, F, I, Goes.refl s hd, fun _ _ => ⟨rfl, rfl, rfl⟩, fun _ _ h => .inl h⟩
    · cases h
  | box e =>
    have hz' : RepT m N (.box e) z [u] G := by simpa [RepA, Ty.isAgg] using hz
    simp only [back1] at h
    split at h
    · rename_i id ver
      split at h
      · rename_i w hs
        split at h
        · rename_i hc
          subst hc
          obtain rfl := Option.some.inj h
          obtain ⟨g, es, T, G', e1, hc, hr, e2⟩ := hz'
          subst e2
          have hG' : Fresh N F size G' := ⟨(List.nodup_cons.1 hG.nod).2, fun k hk => hG.lt k (List.mem_cons_of_mem _ hk), fun k hk => hG.n k (List.mem_cons_of_mem _ hk), fun k hk => hG.f k (List.mem_cons_of_mem _ hk)⟩
          obtain ⟨hd1, F1, k1, r1⟩ := inj_ok e z s b I hr hG'
          have hu := (RepV.goes (v := .one (.bp id w 0)) (fun b hb => ⟨hb, rfl⟩) k1.goes hv : RepC m N _ hd1 (.bp id w 0) u)
          have hob := k1.inv.obj id
          rw [hs] at hob
          obtain ⟨g', e3, e4⟩ := hu.2.2 (by rw [hs]) (by rw [hs]; rfl)
          have e5 : g' = g := by
            rw [e4] at e1
            simpa using e1
          subst e5
          have hg : Fresh N F1 size [g'] := ⟨by simp, by simpa using hG.lt g' (by simp), by simpa using hG.n g' (by simp), fun k hk i hi => by
            simp at hk; subst hk
            rcases k1.sub i k hi with h | h
            · exact hG.f k (by simp) i h
            · exact (List.nodup_cons.1 hG.nod).1 h⟩
          have k2 := back_one k1.inv id w (.box (inj e z s b).cs) _ hs [g'] hg (by simp [Obj.isV]) (fun _ => rfl) (fun s' hgo => ⟨g', es, T, e3, hc, r1.goes (fun b hb => ⟨hb, rfl⟩) hgo, rfl⟩) (inj e z s b).b
          have k1' : BackOK m N s hd F size G' (inj e z s b).s (inj e z s b).ids b (inj e z s b).b hd1 F1 := ⟨k1.inv, k1.goes, k1.loc, k1.sub⟩
          have k3 := k1'.seq k2
          refine ⟨_, _, k3.inv, k3.goes, k3.loc, fun i k hk => ?_⟩
          rcases k3.sub i k hk with h | h
          · exact .inl h
          · rcases List.mem_append.1 h with h | h
            · exact .inr (List.mem_cons_of_mem _ h)
            · simp at h; subst h; exact .inr (List.mem_cons_self ..)
        · cases h
      · cases h
    · cases h
  | map e =>
    have hz' : RepT m N (.map e) z [u] G := by simpa [RepA, Ty.isAgg] using hz
    simp only [back1] at h
    split at h
    · rename_i id ver
      split at h
      · rename_i w hs
        split at h
        · rename_i hc
          subst hc
          obtain rfl := Option.some.inj h
          have hv' : RepC m N s hd (.mp id w) u := hv
          have hu : u = hd id := hv'.2.2 (by rw [hs]) (by rw [hs]; rfl)
          subst hu
          exact ⟨_, _, back_one I id w (.mapo e z) _ hs G hG (by simp [Obj.isV]) (fun _ => rfl) (fun s' _ => hz') b⟩
        · cases h
      · cases h
    · cases h
  | agg fs =>
    simp only [back1] at h
    split at h
    · rename_i cs
      split at h
      · rename_i s' b' ids hb
        obtain rfl := Option.some.inj h
        obtain ⟨us, hus, hz'⟩ : ∃ us, u = .agg ⟨us⟩ ∧ RepT m N (.agg fs) z us G := by
          obtain ⟨cs', k1, k2⟩ := hz.rep
          exact ⟨cs', by simpa [Ty.isAgg] using k2, k1⟩
        obtain ⟨vs, hvs, hcs⟩ := hv
        rw [hus] at hvs
        have hvs' : us = vs := by injection hvs with h1; injection h1
        subst hvs'
        obtain ⟨hd', F', k, _⟩ := backCs_ok fs cs z s b _ hb I (v1 := us) (v2 := []) (by rw [List.append_nil]; exact hcs) hz' hG
        exact ⟨hd', F', k⟩
      · cases h
    · cases h
  | _ => cases h

theorem back_ok {N : Nat → Prop} : ∀ (io : List Bool) (τs : Ty) (vs : List V) (z : (ioTy io τs).den) (s : Sto) (b : Nat) (l : Inj Unit), back io τs vs z s b = some l → ∀ {hd : Nat → Value} {F : Nat → List Nat}, SInv m N s hd F size → ∀ {us : List Value} {G : List Nat}, RepVs m N s hd vs us →
    RepBack m N io τs z us G → Fresh N F size G → ∃ hd' F', BackOK m N s hd F size G l.s l.ids b l.b hd' F' := by
  intro io
  induction io with
  | nil =>
    intro τs vs z s b l h hd F I us G hv hz hG
    cases τs with
    | nil =>
      cases vs with
      | nil =>
        obtain rfl := Option.some.inj h
        cases us with
        | nil =>
          have e : G = [] := hz
          subst e
          exact ⟨hd, F, I, Goes.refl s hd, fun _ _ => ⟨rfl, rfl, rfl⟩, fun _ _ h => .inl h⟩
        | cons _ _ => exact hv.elim
      | cons _ _ => cases h
    | _ => cases vs <;> cases h
  | cons i io ih =>
    intro τs vs z s b l h hd F I us G hv hz hG
    cases τs with
    | cons a r =>
      cases vs with
      | nil => cases i <;> cases h
      | cons v vs =>
        cases us with
        | nil => exact hv.elim
        | cons u us =>
          cases i with
          | false => exact ih r vs z s b l h I hv.2 hz hG
          | true =>
            obtain ⟨G1, G2, e, h1, h2⟩ := hz
            subst e
            simp only [back] at h
            split at h
            · rename_i l1 hl1
              split at h
              · rename_i l2 hl2
                obtain rfl := Option.some.inj h
                obtain ⟨hd1, F1, k1⟩ := back1_ok I hv.1 a z.1 l1 hl1 h1 hG.left
                obtain ⟨hd2, F2, k2⟩ := ih r vs z.2 l1.s l1.b l2 hl2 k1.inv (RepVs.goes (fun b hb => ⟨hb, rfl⟩) k1.goes hv.2) h2 (hG.right k1.sub)
                exact ⟨hd2, F2, k1.seq k2⟩
              · cases h
            · cases h
    | _ => cases i <;> cases vs <;> cases h

end

end Go.Proofs.YtndnhbihcnlpaaaDoorSt.Ev

/- The evaluator: the invariant of a call, and what an operation must show. -/
namespace Go.Proofs.YtndnhbihcnlpaaaDoorSt.Ev
open Go

/-- Where a call began: the world, what it may read, what it owns, and the arguments that go back. -/
structure Ctx where
  w0 : World
  N0 : Nat → Prop
  F0 : List Nat
  nt : Nat
  io : List Nat
  av : Nat → Value

structure Fr (X : Ctx) (w : World) (N : Nat → Prop) (F : Nat → List Nat) : Prop where
  os : w.os = X.w0.os
  tape : w.tape = X.w0.tape
  output : w.output = X.w0.output
  size : X.w0.heap.size ≤ w.heap.size
  block : ∀ k, k < X.w0.heap.size → k ∉ X.F0 → w.heap[k]? = X.w0.heap[k]?
  up : ∀ k, X.N0 k → N k
  new : ∀ k, N k → X.N0 k ∨ X.w0.heap.size ≤ k ∨ k ∈ X.F0
  own : ∀ i k, k ∈ F i → X.w0.heap.size ≤ k ∨ k ∈ X.F0

structure InvD (X : Ctx) (st : St) (a : Act) (w : World) (N : Nat → Prop) (hd : Nat → Value) (F : Nat → List Nat) : Prop where
  s : SInv (memOf w) N st.o hd F w.heap.size
  t : ∀ t, RepV (memOf w) N st.o hd (st.t t) (a.tmps.getD t undef)
  defers : a.defers = []
  size : a.tmps.size = X.nt
  io : ∀ j ∈ X.io, a.tmps.getD j undef = X.av j
  fr : Fr X w N F

def Inv (X : Ctx) (st : St) (a : Act) (w : World) : Prop := ∃ N hd F, InvD X st a w N hd F

/-- How the world may go on under one operation: old blocks but those of 'W' stay. -/
structure Moves (w w' : World) (W : List Nat) : Prop where
  os : w'.os = w.os
  tape : w'.tape = w.tape
  output : w'.output = w.output
  size : w.heap.size ≤ w'.heap.size
  block : ∀ k, k < w.heap.size → k ∉ W → w'.heap[k]? = w.heap[k]?

theorem Moves.refl (w : World) : Moves w w [] := ⟨rfl, rfl, rfl, Nat.le_refl _, fun _ _ _ => rfl⟩
theorem Moves.alloc (w : World) (o : Go.Obj) : Moves w (w.alloc o) [] := ⟨rfl, rfl, rfl, by simp, fun k hk _ => Go.heap_alloc_old w o hk⟩
theorem Moves.trans {w w1 w2 : World} {W : List Nat} (h1 : Moves w w1 W) (h2 : Moves w1 w2 W) : Moves w w2 W :=
  ⟨h2.os.trans h1.os, h2.tape.trans h1.tape, h2.output.trans h1.output, Nat.le_trans h1.size h2.size, fun k hk hW => (h2.block k (Nat.lt_of_lt_of_le hk h1.size) hW).trans (h1.block k hk hW)⟩
theorem Moves.weaken {w w1 : World} {W W' : List Nat} (h1 : Moves w w1 W) (h : ∀ k ∈ W, k ∈ W') : Moves w w1 W' :=
  ⟨h1.os, h1.tape, h1.output, h1.size, fun k hk hW => h1.block k hk (fun h' => hW (h k h'))⟩
theorem Moves.drew (w : World) : Moves w w.drew [] := ⟨rfl, rfl, rfl, Nat.le_refl _, fun _ _ _ => rfl⟩

theorem Fr.move {X : Ctx} {w w' : World} {N N' : Nat → Prop} {F F' : Nat → List Nat} {W : List Nat} (h : Fr X w N F) (hm : Moves w w' W) (hW : ∀ k ∈ W, ∃ i, k ∈ F i) (hup : ∀ k, N k → N' k)
    (hnew : ∀ k, N' k → N k ∨ (∃ i, k ∈ F i) ∨ w.heap.size ≤ k) (hown : ∀ i k, k ∈ F' i → (∃ j, k ∈ F j) ∨ w.heap.size ≤ k) : Fr X w' N' F' where
  os := hm.os.trans h.os
  tape := hm.tape.trans h.tape
  output := hm.output.trans h.output
  size := Nat.le_trans h.size hm.size
  block := fun k hk hF => by
    refine (hm.block k (Nat.lt_of_lt_of_le hk h.size) (fun hkW => ?_)).trans (h.block k hk hF)
    obtain ⟨i, hi⟩ := hW k hkW
    rcases h.own i k hi with h' | h'
    · omega
    · exact hF h'
  up := fun k hk => hup k (h.up k hk)
  new := fun k hk => by
    rcases hnew k hk with h' | ⟨i, h'⟩ | h'
    · exact h.new k h'
    · exact .inr (h.own i k h')
    · exact .inr (.inl (Nat.le_trans h.size h'))
  own := fun i k hk => by
    rcases hown i k hk with ⟨j, h'⟩ | h'
    · exact h.own j k h'
    · exact .inl (Nat.le_trans h.size h')

def dstOK (X : Ctx) (d : Option Nat) : Prop := ∀ t, d = some t → t < X.nt ∧ t ∉ X.io

theorem put_getD (a : Act) (d : Nat) (v : Value) (h : d < a.tmps.size) (t : Nat) : (a.put (some d) v).tmps.getD t undef = if t = d then v else a.tmps.getD t undef := by
  simp only [Act.put, Array.getD_eq_getD_getElem?, Array.getElem?_setIfInBounds]
  by_cases e : t = d
  · subst e; simp [h]
  · rw [if_neg (fun h => e h.symm), if_neg e]

theorem put_size (a : Act) (d : Option Nat) (v : Value) : (a.put d v).tmps.size = a.tmps.size := by cases d <;> simp [Act.put]
theorem put_defers (a : Act) (d : Option Nat) (v : Value) : (a.put d v).defers = a.defers := by cases d <;> rfl

/-- The state behind an operation. -/
theorem InvD.put {X : Ctx} {st : St} {a : Act} {w w' : World} {N N' : Nat → Prop} {hd hd' : Nat → Value} {F F' : Nat → List Nat} (I : InvD X st a w N hd F) {e : Eff} {d : Option Nat} (hdst : dstOK X d) {u : Value} {s' : Sto}
    (hs : (st.app d e).o = s') (I' : SInv (memOf w') N' s' hd' F' w'.heap.size) (hN : ∀ b, N b → N' b ∧ memOf w' b = memOf w b) (g : Goes st.o s' hd hd') (fr : Fr X w' N' F') (hv : RepV (memOf w') N' s' hd' e.v u) :
    InvD X (st.app d e) (a.put d u) w' N' hd' F' where
  s := by rw [hs]; exact I'
  t := fun t => by
    rw [hs]
    have ht := RepV.goes hN g (I.t t)
    cases d with
    | none => exact ht
    | some d =>
      rw [put_getD a d u (by rw [I.size]; exact (hdst d rfl).1)]
      show RepV _ _ _ _ (if t = d then e.v else st.t t) _
      by_cases h : t = d
      · rw [if_pos h, if_pos h]; exact hv
      · rw [if_neg h, if_neg h]; exact ht
  defers := by rw [put_defers]; exact I.defers
  size := by rw [put_size]; exact I.size
  io := fun j hj => by
    cases d with
    | none => exact I.io j hj
    | some d =>
      rw [put_getD a d u (by rw [I.size]; exact (hdst d rfl).1), if_neg (fun h => (hdst d rfl).2 (by rw [← h]; exact hj))]
      exact I.io j hj
  fr := fr

/-- An operation that touches neither objects nor memory. -/
theorem InvD.val {X : Ctx} {st : St} {a : Act} {w : World} {N : Nat → Prop} {hd : Nat → Value} {F : Nat → List Nat} (I : InvD X st a w N hd F) {v : V} {s : Sto} {r : List Nat} {d : Option Nat} (hdst : dstOK X d) {u : Value} (hv : RepV (memOf w) N st.o hd v u) :
    Inv X (st.app d { v, s, r }) (a.put d u) w :=
  ⟨N, hd, F, I.put (s' := st.o) hdst (by funext i; simp [St.app]) I.s (fun _ h => ⟨h, rfl⟩) (Goes.refl _ _) I.fr hv⟩

theorem wp_value {P : Program} {o : Oper} {a : Act} {w w' : World} {K : Act → World → Prop} {Q : Exit → Act → World → Prop} {u : Value} (hr : (execOp a.eval o).run P w = .ok (.value u) w') (h : K (a.put o.dst u) w') : o.wp P a w K Q := by
  unfold Oper.wp; rw [hr]; exact h
theorem wp_skip' {P : Program} {o : Oper} {a : Act} {w w' : World} {K : Act → World → Prop} {Q : Exit → Act → World → Prop} (hr : (execOp a.eval o).run P w = .ok .skip w') (h : K (a.put o.dst undef) w') : o.wp P a w K Q := by
  unfold Oper.wp; rw [hr]; exact h

/-! ### Operands -/
theorem constC_rep {m : Mem} {N : Nat → Prop} {s : Sto} {hd : Nat → Value} {v : Value} {c : C} (h : constC v = some c) : RepC m N s hd c v := by
  unfold constC at h
  split at h
  all_goals first
    | (cases h; done)
    | (obtain rfl := Option.some.inj h
       first
        | exact ⟨rfl, rfl⟩
        | exact ⟨rfl, _, rfl, rfl⟩
        | exact ⟨none, rfl⟩
        | exact (rfl : _ = _))

theorem constCs_rep {m : Mem} {N : Nat → Prop} {s : Sto} {hd : Nat → Value} : ∀ {vs : List Value} {cs : List C}, constCs vs = some cs → RepCs m N s hd cs vs
  | [], cs, h => by obtain rfl := Option.some.inj h; trivial
  | v :: vs, cs, h => by
    simp only [constCs] at h
    split at h
    · rename_i c cs' h1 h2
      obtain rfl := Option.some.inj h
      exact ⟨constC_rep h1, constCs_rep h2⟩
    · cases h

theorem constV_rep {m : Mem} {N : Nat → Prop} {s : Sto} {hd : Nat → Value} (v : Value) : RepV m N s hd (constV v) v := by
  by_cases h : ∃ cs, v = .agg cs
  · obtain ⟨cs, rfl⟩ := h
    simp only [constV]
    split
    · rename_i l h; exact ⟨cs.toList, rfl, constCs_rep h⟩
    · trivial
  · have e : constV v = ofC (constC v) := by cases v <;> first | rfl | exact absurd ⟨_, rfl⟩ h
    rw [e]
    cases hc : constC v with
    | none => trivial
    | some c => exact constC_rep hc

theorem InvD.eval {X : Ctx} {st : St} {a : Act} {w : World} {N : Nat → Prop} {hd : Nat → Value} {F : Nat → List Nat} (I : InvD X st a w N hd F) (x : Operand) : RepV (memOf w) N st.o hd (st.eval x) (a.eval x) := by
  cases x with
  | tmp t => exact I.t t
  | const v => exact constV_rep v
  | global g => trivial
  | func f => exact ⟨rfl, [], rfl, rfl, rfl⟩

/-- What an operation must show: over every state that is alike where it looks. -/
def Good (E : Env) (X : Ctx) (o : Oper) (st : St) (e : Eff) : Prop :=
  ∀ st' : St, (∀ x ∈ o.op.operands, st'.eval x = st.eval x) → (∀ i, i ∈ e.w ∨ i ∈ e.r → st'.o i = st.o i) → ∀ a w, Inv X st' a w → dstOK X o.dst → ∀ (K : Act → World → Prop) (Q : Exit → Act → World → Prop),
    (∀ a' w', Inv X (st'.app o.dst e) a' w' → K a' w') → o.wp E.P a w K Q

/-- Values alone: the operation's run is told. -/
theorem Good.val {E : Env} {X : Ctx} {o : Oper} {st : St} {v : V} {r : List Nat} {s : Sto}
    (h : ∀ st' : St, (∀ x ∈ o.op.operands, st'.eval x = st.eval x) → (∀ i ∈ r, st'.o i = st.o i) → ∀ a w N hd F, InvD X st' a w N hd F →
      ∃ u, (execOp a.eval o).run E.P w = .ok (.value u) w ∧ RepV (memOf w) N st'.o hd v u) : Good E X o st { v, s, r } := by
  intro st' h1 h2 a w ⟨N, hd, F, I⟩ hd' K Q hK
  obtain ⟨u, hr, hv⟩ := h st' h1 (fun i hi => h2 i (.inr hi)) a w N hd F I
  exact wp_value hr (hK _ _ (I.val hd' hv))

theorem subV_one {h : Value} (hh : h.oneCell' = true) (sz lo hi : Nat) : (subV h sz lo hi).oneCell' = true := by
  unfold subV; split
  · rfl
  · exact hh

end Go.Proofs.YtndnhbihcnlpaaaDoorSt.Ev

/- The evaluator: operations that read. -/
namespace Go.Proofs.YtndnhbihcnlpaaaDoorSt.Ev
open Go

section tables
variable {P : Program}
theorem info_of_underlying {t : TypeId} {d : TypeDesc} (h : P.underlying t = some d) : ∃ i, P.info? t = some i := by
  cases hi : P.info? t with
  | none => simp [Program.underlying, hi] at h
  | some i => exact ⟨i, rfl⟩
theorem info_of_sz {t : TypeId} (h : szP P t ≠ 0) : ∃ i, P.info? t = some i ∧ i.size = szP P t := by
  unfold szP at h ⊢
  cases hi : P.info? t with
  | none => simp [hi] at h
  | some i => exact ⟨i, rfl, by simp⟩
theorem run_sizeOf {t : TypeId} (h : szP P t ≠ 0) (w : World) : (sizeOf t).run P w = .ok (szP P t) w := by
  obtain ⟨i, hi, hs⟩ := info_of_sz h
  simp [sizeOf, typeInfo, hi, hs]
theorem run_isAgg {t : TypeId} (h : okP P t = true) (w : World) : (isAgg t).run P w = .ok (isAggP P t) w := by
  unfold okP at h
  obtain ⟨d, hd⟩ := Option.isSome_iff_exists.1 h
  unfold isAgg isAggP
  rw [Sem.run_bind, run_underlying hd w]
  simp only [Result.andThen, hd]
  cases d <;> rfl
theorem elemP_some {t te : TypeId} (h : elemP P t = some te) : P.underlying t = some (.slice te) := by
  unfold elemP at h
  split at h
  · rename_i e he; simp at h; subst h; exact he
  · cases h
end tables

theorem cell_of_in {w : World} {b off : Nat} {us : List Value} (h : cellsIn (memOf w) b off us) (j : Nat) (v : Value) (hj : us[j]? = some v) : w.cell? ⟨b, off + j, none⟩ = some v := by
  obtain ⟨c, T, fr, h1, h2⟩ := h
  have h1' : w.heap[b]? = some (.cells c T fr) := h1
  simp [World.cell?, h1', h2 j v hj]

theorem Addr.add_none (b off n : Nat) : (⟨b, off, none⟩ : Addr).add n = ⟨b, off + n, none⟩ := by
  unfold Addr.add; split
  · rename_i h; simp [h]
  · rfl

theorem run_loadVar {P : Program} {w : World} {t : TypeId} {b off : Nat} {us : List Value} (h : cellsIn (memOf w) b off us) (hok : okP P t = true) (hl : (us.take (szP P t)).length = szP P t) (h1 : isAggP P t = false → szP P t = 1) :
    ∃ u, (loadVar t ⟨b, off, none⟩).run P w = .ok u w ∧ (if isAggP P t = true then u = .agg ⟨us.take (szP P t)⟩ else us.take (szP P t) = [u]) := by
  cases hag : isAggP P t with
  | true =>
    refine ⟨.agg ⟨us.take (szP P t)⟩, ?_, by simp⟩
    have hlc := run_loadCells_list (P := P) w ⟨b, off, none⟩ (us.take (szP P t)) (fun j v hj => by
      rw [Addr.add_none]
      rw [List.getElem?_take] at hj
      split at hj
      · exact cell_of_in h j v hj
      · cases hj)
    rw [hl] at hlc
    have hs : (sizeOf t).run P w = .ok (szP P t) w := by
      unfold okP at hok
      obtain ⟨d, hd⟩ := Option.isSome_iff_exists.1 hok
      obtain ⟨i, hi⟩ := info_of_underlying hd
      simp [sizeOf, typeInfo, hi, szP]
    simp [loadVar, Sem.run_bind, run_isAgg hok, hag, hs, hlc]
  | false =>
    have h1' := h1 hag
    rw [h1'] at hl ⊢
    match us, hl with
    | u :: r, _ =>
      refine ⟨u, ?_, by simp⟩
      have := cell_of_in h 0 u rfl
      simp only [Nat.add_zero] at this
      simp [loadVar, Sem.run_bind, run_isAgg hok, hag, run_load, this]

/-- The cells at an address stand for what the evaluator finds there. -/
theorem cellsAt_ok {R : Type} {c : C} {s : Sto} {K : List C → List Nat → Option R} {r : R} (h : cellsAt c s K = some r) :
    ∃ cs m, K cs m = some r ∧ ∀ s' : Sto, (∀ i ∈ m, s' i = s i) → ∀ {mem : Mem} {N : Nat → Prop} {hd : Nat → Value} {F : Nat → List Nat} {size : Nat}, SInv mem N s' hd F size → ∀ v, RepC mem N s' hd c v →
      ∃ b off us, v = .pointer (some ⟨b, off, none⟩) ∧ RepCs mem N s' hd cs us ∧ cellsIn mem b off us := by
  cases c with
  | iptr τ x off =>
    simp only [cellsAt] at h
    split at h
    · rename_i hi
      refine ⟨_, _, h, fun s' _ mem N hd F size I v hv => ?_⟩
      obtain ⟨b, o, es, h1, h2, h3, h4⟩ := hv
      exact ⟨b, o + off, es.drop off, h1, (ex_rep hi h3).drop, h4.drop off⟩
    · cases h
  | bp id ver off =>
    simp only [cellsAt] at h
    split at h
    · rename_i v cs hs
      split at h
      · rename_i hv
        subst hv
        refine ⟨_, _, h, fun s' hs' mem N hd F size I u hu => ?_⟩
        have hid := hs' id (by simp)
        rw [hs] at hid
        have hob := I.obj id
        rw [hid] at hob
        obtain ⟨g, vs, T, h1, h2, h3, h4⟩ := hob
        obtain ⟨g', e1, e2⟩ := hu.2.2 (by rw [hid]) (by rw [hid]; rfl)
        rw [h1] at e1
        injection e1 with e1; injection e1 with e1; injection e1 with e1
        subst e1
        exact ⟨g, off, vs.drop off, e2, h3.drop, ⟨⟨vs⟩, T, (0, 0), h2, fun j w hj => by simpa using hj⟩⟩
      · cases h
    · rename_i v τ x hs
      split at h
      · rename_i hv
        obtain ⟨rfl, hi⟩ := hv
        refine ⟨_, _, h, fun s' hs' mem N hd F size I u hu => ?_⟩
        have hid := hs' id (by simp)
        rw [hs] at hid
        have hob := I.obj id
        rw [hid] at hob
        obtain ⟨_, ⟨_, b, o, es, h1, h2, h3, h4⟩, g, h5⟩ := hob
        obtain ⟨g', e1, e2⟩ := hu.2.2 (by rw [hid]) (by rw [hid]; rfl)
        have h1' : hd id = .pointer (some ⟨b, o, none⟩) := by simpa using h1
        rw [h1'] at e1
        injection e1 with e1; injection e1 with e1; injection e1 with e1 e3
        subst e1; subst e3
        exact ⟨b, off, es.drop off, e2, (ex_rep hi h3).drop, by have := h4.drop off; simpa using this⟩
      · cases h
    · cases h
  | ep id ver i off =>
    simp only [cellsAt] at h
    split at h
    · rename_i v e xs hs
      split at h
      · rename_i hv
        obtain ⟨rfl, hi⟩ := hv
        obtain ⟨x, hx, h⟩ := Option.bind_eq_some_iff.1 h
        refine ⟨_, _, h, fun s' hs' mem N hd F size I u hu => ?_⟩
        have hid := hs' id (by simp)
        rw [hs] at hid
        have hob := I.obj id
        rw [hid] at hob
        obtain ⟨g', len, cap, e1, e2⟩ := hu.2.2 (by rw [hid]) (by rw [hid]; rfl)
        rw [hid] at e2
        rcases hob with ⟨a, _, h2, _⟩ | ⟨g, cap', c, T, es, Fs, h1, h2, h3, h4, h5, h6, h7, h8, h9, h10⟩
        · subst h2; simp at hx
        · obtain ⟨hilt, hxi⟩ := List.getElem?_eq_some_iff.1 hx
          have h1' : hd id = .slice (some ⟨g, 0, none⟩) (List.length xs) cap' := by simpa using h1
          rw [h1'] at e1
          injection e1 with e1 _ _; injection e1 with e1; injection e1 with e1
          subst e1
          have h8' := h8 i hilt (by omega) (by omega)
          have hf := RepT.imm hi h8'
          rw [hf, hxi] at h8'
          have hlen : ∀ y ∈ es, y.length = e.sz := by
            intro y hy
            obtain ⟨j, hj, rfl⟩ := List.mem_iff_getElem.1 hy
            exact (h8 j (by omega) hj (by omega)).len
          refine ⟨g, i * e.sz + off, (es[i]'(by omega)).drop off, e2, (ex_rep hi h8').drop, ?_⟩
          have hc : cellsIn mem g 0 es.flatten := ⟨c, T, (0, 0), h2, fun j w hj => by
            rw [← h9, List.getElem?_take] at hj
            split at hj
            · simpa using hj
            · cases hj⟩
          have hc' := hc.drop (i * e.sz)
          rw [flatten_drop_of_len es i hlen, List.drop_eq_getElem_cons (by omega), List.flatten_cons, Nat.zero_add] at hc'
          have hc2 : cellsIn mem g (i * e.sz) (es[i]'(by omega)) := by
            obtain ⟨c', T', fr', k1, k2⟩ := hc'
            exact ⟨c', T', fr', k1, fun j w hj => k2 j w (by rw [List.getElem?_append_left (List.getElem?_eq_some_iff.1 hj).1]; exact hj)⟩
          exact hc2.drop off
      · cases h
    · cases h
  | _ => cases h

section
variable {E : Env} {O : Oracle E} {X : Ctx} {o : Oper} {st : St} {R : Type} {K : Eff → Option R} {r : R}

theorem one_some {st : St} {x : Operand} {k : C → Option R} (h : (match (st.eval x).one? with | some c => k c | none => none) = some r) : ∃ c, st.eval x = .one c ∧ k c = some r := by
  split at h
  · rename_i c hc
    cases hv : st.eval x with
    | one c' => rw [hv] at hc; simp [V.one?] at hc; subst hc; exact ⟨c', rfl, h⟩
    | _ => rw [hv] at hc; simp [V.one?] at hc
  · cases h

end

/-- A part of data, and what the data are with another part there. -/
theorem elem_split {m : Mem} {N : Nat → Prop} : ∀ (e : Ty) (x : e.den) (cs : List Value) (F : List Nat) (off : Nat) (σ : Ty) (ys : List σ.den), RepT m N e x cs F → getAt e x off = some ⟨σ, ys⟩ →
    ∃ v0 Fa G Fb, cs[off]? = some v0 ∧ F = Fa ++ (G ++ Fb) ∧ RepT m N (.own σ) ys [v0] G ∧
      ∀ (m' : Mem) (N' : Nat → Prop), (∀ b, N b → N' b ∧ m' b = m b) → (∀ k ∈ Fa ++ Fb, m' k = m k) → ∀ (σ' : Ty) (ys' : List σ'.den) (G' : List Nat) (x' : e.den), RepT m' N' (.own σ') ys' [v0] G' → setAt e x off σ' ys' = some x' → RepT m' N' e x' cs (Fa ++ (G' ++ Fb)) := by
  intro e
  induction e with
  | agg fs ih => intro x cs F off σ ys hr hg; exact ih x cs F off σ ys hr hg
  | own τ _ =>
    intro x cs F off σ ys hr hg
    cases off with
    | succ _ => cases hg
    | zero =>
      have hl := hr.len
      match cs, hl with
      | [v0], _ =>
        have hg' := Option.some.inj hg
        injection hg' with h1 h2
        subst h1
        obtain rfl := eq_of_heq h2
        refine ⟨v0, [], F, [], rfl, by simp, hr, fun m' N' _ _ σ' ys' G' x' hr' hs => ?_⟩
        simp only [setAt] at hs
        split at hs
        · rename_i hσ
          obtain rfl := Option.some.inj hs
          simpa using castDen_rep hσ hr'
        · cases hs
  | cons a r iha ihr =>
    intro x cs F off σ ys hr hg
    obtain ⟨c1, c2, F1, F2, rfl, rfl, h1, h2⟩ := hr
    have hl := h1.len
    by_cases ho : off < a.sz
    · simp only [getAt, if_pos ho] at hg
      obtain ⟨v0, Fa, G, Fb, k1, k2, k3, k4⟩ := iha x.1 c1 F1 off σ ys h1 hg
      refine ⟨v0, Fa, G, Fb ++ F2, by rw [List.getElem?_append_left (by omega)]; exact k1, by rw [k2]; simp, k3, fun m' N' hN hF σ' ys' G' x' hr' hs => ?_⟩
      simp only [setAt, if_pos ho] at hs
      split at hs
      · rename_i z hz
        obtain rfl := Option.some.inj hs
        exact ⟨c1, c2, Fa ++ (G' ++ Fb), F2, rfl, by simp, k4 m' N' hN (fun k hk => hF k (by
          rcases List.mem_append.1 hk with h | h
          · exact List.mem_append_left _ h
          · exact List.mem_append_right _ (List.mem_append_left _ h))) σ' ys' G' z hr' hz, RepT.mono hN (fun k hk => hF k (List.mem_append_right _ (List.mem_append_right _ hk))) h2⟩
      · cases hs
    · simp only [getAt, if_neg ho] at hg
      obtain ⟨v0, Fa, G, Fb, k1, k2, k3, k4⟩ := ihr x.2 c2 F2 (off - a.sz) σ ys h2 hg
      refine ⟨v0, F1 ++ Fa, G, Fb, by rw [List.getElem?_append_right (by omega), hl]; exact k1, by rw [k2]; simp, k3, fun m' N' hN hF σ' ys' G' x' hr' hs => ?_⟩
      simp only [setAt, if_neg ho] at hs
      split at hs
      · rename_i z hz
        obtain rfl := Option.some.inj hs
        exact ⟨c1, c2, F1, Fa ++ (G' ++ Fb), rfl, by simp, RepT.mono hN (fun k hk => hF k (List.mem_append_left _ (List.mem_append_left _ hk))) h1, k4 m' N' hN (fun k hk => hF k (by
          rcases List.mem_append.1 hk with h | h
          · exact List.mem_append_left _ (List.mem_append_right _ h)
          · exact List.mem_append_right _ h)) σ' ys' G' z hr' hz⟩
      · cases hs
  | _ => intro x cs F off σ ys hr hg; cases hg

theorem flatten_set {α : Type} (L : List (List α)) (i : Nat) (y : List α) (h : i < L.length) : (L.set i y).flatten = (L.take i).flatten ++ (y ++ (L.drop (i + 1)).flatten) := by
  rw [List.set_eq_take_append_cons_drop, if_pos h]; simp
theorem flatten_at {α : Type} (L : List (List α)) (i : Nat) (h : i < L.length) : L.flatten = (L.take i).flatten ++ (L[i] ++ (L.drop (i + 1)).flatten) := by
  conv => lhs; rw [← List.take_append_drop i L, List.drop_eq_getElem_cons h]
  rw [List.flatten_append, List.flatten_cons]

/-- A part of a row, and what the row is with another part there. -/
theorem row_split {m : Mem} {N : Nat → Prop} {e : Ty} {xs : List e.den} {h : Value} {F : List Nat} (hr : RepT m N (.own e) xs [h] F) {i off : Nat} {x : e.den} (hx : xs[i]? = some x) {σ : Ty} {ys : List σ.den} (hg : getAt e x off = some ⟨σ, ys⟩) :
    ∃ g cap c T v0 Fa G Fb, h = .slice (some ⟨g, 0, none⟩) (List.length xs) cap ∧ m g = some (.cells c T (0, 0)) ∧ c.toList[i * e.sz + off]? = some v0 ∧ F = Fa ++ (G ++ Fb) ∧ RepT m N (.own σ) ys [v0] G ∧ Wand m N e xs i off x h v0 Fa Fb := by
  obtain ⟨hi, rfl⟩ := List.getElem?_eq_some_iff.1 hx
  rcases hr with ⟨a, _, h2, _⟩ | ⟨g, cap, c, T, es, Fs, h1, h2, h3, h4, h5, h6, h7, h8, h9, rfl⟩
  · subst h2; simp at hi
  · have h1' : h = .slice (some ⟨g, 0, none⟩) (List.length xs) cap := by simpa using h1
    have hie : i < es.length := by omega
    have hiF : i < Fs.length := by omega
    obtain ⟨v0, Fa, G, Fb, k1, k2, k3, k4⟩ := elem_split e xs[i] es[i] Fs[i] off σ ys (h8 i hi hie hiF) hg
    have hlen : ∀ y ∈ es, y.length = e.sz := by
      intro y hy
      obtain ⟨j, hj, rfl⟩ := List.mem_iff_getElem.1 hy
      exact (h8 j (by omega) hj (by omega)).len
    have hoff : off < e.sz := by
      have := (List.getElem?_eq_some_iff.1 k1).1
      rwa [hlen _ (List.getElem_mem hie)] at this
    refine ⟨g, cap, c, T, v0, g :: ((Fs.take i).flatten ++ Fa), G, Fb ++ (Fs.drop (i + 1)).flatten, h1', h2, ?_, ?_, k3, fun m' N' hN hF σ' ys' G' x' hr' hs => ?_⟩
    · have hfl := flatten_len_of_len es hlen
      have hlt : i * e.sz + off < es.flatten.length := by
        rw [hfl]
        have : (i + 1) * e.sz ≤ es.length * e.sz := Nat.mul_le_mul_right _ (by omega)
        rw [Nat.add_mul] at this; omega
      have e1 : c.toList[i * e.sz + off]? = es.flatten[i * e.sz + off]? := by
        rw [← h9, List.getElem?_take, if_pos hlt]
      rw [e1, flatten_at es i hie]
      have hA : (es.take i).flatten.length = i * e.sz := by
        rw [flatten_len_of_len _ (fun y hy => hlen y (List.mem_of_mem_take hy)), List.length_take]
        congr 1; omega
      rw [List.getElem?_append_right (by omega), hA, Nat.add_sub_cancel_left, List.getElem?_append_left (by rw [hlen _ (List.getElem_mem hie)]; exact hoff)]
      exact k1
    · rw [flatten_at Fs i hiF, k2]; simp
    · refine .inr ⟨g, cap, c, T, es, Fs.set i (Fa ++ (G' ++ Fb)), by simpa using h1, by rw [hF g (by simp)]; exact h2, h3, by simpa using h4, h5, by simpa using h6, by simpa using h7, fun j hj hj' hj'' => ?_, h9, ?_⟩
      · have hj0 : j < List.length xs := by simpa using hj
        have hj2 : j < Fs.length := by simpa using hj''
        by_cases hji : j = i
        · subst hji
          simp only [List.getElem_set_self]
          exact k4 m' N' hN (fun k hk => hF k (by
            rcases List.mem_append.1 hk with h | h
            · exact List.mem_append_left _ (List.mem_cons_of_mem _ (List.mem_append_right _ h))
            · exact List.mem_append_right _ (List.mem_append_left _ h))) σ' ys' G' x' hr' hs
        · simp only [List.getElem_set_ne (Ne.symm hji)]
          refine RepT.mono hN (fun k hk => hF k ?_) (h8 j hj0 hj' hj2)
          by_cases hlt : j < i
          · refine List.mem_append_left _ (List.mem_cons_of_mem _ (List.mem_append_left _ (List.mem_flatten.2 ⟨Fs[j], ?_, hk⟩)))
            exact List.mem_iff_getElem.2 ⟨j, by rw [List.length_take]; omega, by simp⟩
          · refine List.mem_append_right _ (List.mem_append_right _ (List.mem_flatten.2 ⟨Fs[j], ?_, hk⟩))
            exact List.mem_iff_getElem.2 ⟨j - (i + 1), by rw [List.length_drop]; omega, by simp; congr 1; omega⟩
      · rw [flatten_set Fs i _ hiF]; simp

/-- An element of a row of rows. -/
theorem mv_at {m : Mem} {N : Nat → Prop} {a : Ty} {xs : List (Ty.mv a).den} {h : Value} {F : List Nat} (hr : RepT m N (.own (.mv a)) xs [h] F) {i : Nat} {x : (Ty.mv a).den} (hx : xs[i]? = some x) :
    ∃ g cap c T v0 Fa G Fb, h = .slice (some ⟨g, 0, none⟩) (List.length xs) cap ∧ m g = some (.cells c T (0, 0)) ∧ c.toList[i]? = some v0 ∧ F = Fa ++ (G ++ Fb) ∧ RepT m N (.mv a) x [v0] G ∧ RepT m N (.own (.mv a)) (xs.set i none) [h] (Fa ++ Fb) := by
  obtain ⟨hi, rfl⟩ := List.getElem?_eq_some_iff.1 hx
  rcases hr with ⟨b, _, h2, _⟩ | ⟨g, cap, c, T, es, Fs, h1, h2, h3, h4, h5, h6, h7, h8, h9, rfl⟩
  · subst h2; simp at hi
  · have h1' : h = .slice (some ⟨g, 0, none⟩) (List.length xs) cap := by simpa using h1
    have hie : i < es.length := by omega
    have hiF : i < Fs.length := by omega
    have hlen : ∀ y ∈ es, y.length = 1 := by
      intro y hy
      obtain ⟨j, hj, rfl⟩ := List.mem_iff_getElem.1 hy
      exact (h8 j (by omega) hj (by omega)).len
    obtain ⟨v0, hv0⟩ : ∃ v0, es[i] = [v0] := by
      have := hlen _ (List.getElem_mem hie)
      match es[i], this with
      | [v], _ => exact ⟨v, rfl⟩
    have hrep := h8 i hi hie hiF
    have hone := RepT.one' hrep v0 (by rw [hv0]; simp)
    rw [hv0] at hrep
    refine ⟨g, cap, c, T, v0, g :: (Fs.take i).flatten, Fs[i], (Fs.drop (i + 1)).flatten, h1', h2, ?_, ?_, hrep, ?_⟩
    · have hfl := flatten_len_of_len es hlen
      have hlt : i < es.flatten.length := by rw [hfl]; omega
      have e1 : c.toList[i]? = es.flatten[i]? := by
        rw [← h9, List.getElem?_take, if_pos hlt]
      rw [e1, flatten_at es i hie]
      have hA : (es.take i).flatten.length = i := by
        rw [flatten_len_of_len _ (fun y hy => hlen y (List.mem_of_mem_take hy)), List.length_take]; omega
      rw [List.getElem?_append_right (by omega), hA, Nat.sub_self, hv0]
      rfl
    · rw [flatten_at Fs i hiF]; simp
    · refine .inr ⟨g, cap, c, T, es, Fs.set i [], by simpa using h1, h2, h3, by simpa using h4, h5, by simpa using h6, by simpa using h7, fun j hj hj' hj'' => ?_, h9, ?_⟩
      · have hj0 : j < List.length xs := by simpa using hj
        have hj2 : j < Fs.length := by simpa using hj''
        by_cases hji : j = i
        · subst hji
          simp only [List.getElem_set_self]
          exact ⟨rfl, v0, hv0, hone⟩
        · simp only [List.getElem_set_ne (Ne.symm hji)]
          exact h8 j hj0 hj' hj2
      · rw [flatten_set Fs i _ hiF]; simp

section
variable {E : Env} {O : Oracle E} {X : Ctx} {o : Oper} {st : St} {R : Type} {K : Eff → Option R} {r : R}

theorem good_load0 {t : TypeId} {x : Operand} (ho : o.op = .load t x) (hmv : mvEp (st.eval x) st.o = none) (hnb : ¬ (E.borrow (o.dst.getD 0) t = true ∧ deepEp (st.eval x) st.o = true)) (h : exOp E O o st K = some r) : ∃ e, K e = some r ∧ Good E X o st e := by
  simp only [exOp, ho, hmv] at h
  rw [if_neg hnb] at h
  obtain ⟨c, hc, h⟩ := one_some h
  obtain ⟨cs, m, h, hat⟩ := cellsAt_ok h
  split at h
  · rename_i hif
    obtain ⟨hok, hl, hs1⟩ := hif
    refine ⟨_, h, Good.val fun st' he hm a w N hd F I => ?_⟩
    have hx := I.eval x
    rw [he x (by rw [ho]; simp [Op.operands]), hc] at hx
    obtain ⟨b, off, us, e1, e2, e3⟩ := hat st'.o hm I.s _ hx
    have hlu : (us.take (szP E.P t)).length = szP E.P t := by
      have := e2.len; simp only [List.length_take] at hl ⊢; omega
    obtain ⟨u, hr, hu⟩ := run_loadVar e3 hok hlu hs1
    exact ⟨u, by simp [execOp, ho, Instr.loadAt, e1, Instr.sureAddr, hr], (ofCells_rep e2.take hu).1⟩
  · cases h

theorem good_move {x : Operand} (ho : o.op = .move x ∨ o.op = .assign x) (h : exOp E O o st K = some r) : ∃ e, K e = some r ∧ Good E X o st e := by
  have h' : K { v := st.eval x, s := st.o, r := [] } = some r := by
    rcases ho with ho | ho <;> (simp only [exOp, ho] at h; exact h)
  refine ⟨_, h', Good.val fun st' he hm a w N hd F I => ⟨a.eval x, by rcases ho with ho | ho <;> simp [execOp, ho], ?_⟩⟩
  rw [← he x (by rcases ho with ho | ho <;> (rw [ho]; simp [Op.operands]))]
  exact I.eval x

theorem good_pick {c x y : Operand} (ho : o.op = .pick c x y) (h : exOp E O o st K = some r) : ∃ e, K e = some r ∧ Good E X o st e := by
  simp only [exOp, ho] at h
  obtain ⟨d, hd, h⟩ := one_some h
  split at h
  · rename_i b
    refine ⟨_, h, Good.val fun st' he hm a w N hd' F I => ?_⟩
    have hc := I.eval c
    rw [he c (by rw [ho]; simp [Op.operands]), hd] at hc
    have hcv : a.eval c = .bool b := by simpa using hc.1
    have hx := I.eval x; have hy := I.eval y
    rw [he x (by rw [ho]; simp [Op.operands])] at hx
    rw [he y (by rw [ho]; simp [Op.operands])] at hy
    refine ⟨if b then a.eval x else a.eval y, by simp [execOp, ho, hcv, asBool], ?_⟩
    cases b
    · exact hy
    · exact hx
  · cases h

/-- A value out of one operand's. -/
theorem good_one {x : Operand} {c : C} (hc : st.eval x = .one c) (hx : x ∈ o.op.operands) {v : V} {s : Sto} {rd : List Nat}
    (h : ∀ {a : Act} {w : World} {N : Nat → Prop} {s' : Sto} {hd : Nat → Value} {F : Nat → List Nat}, (∀ i ∈ rd, s' i = st.o i) → SInv (memOf w) N s' hd F w.heap.size → RepC (memOf w) N s' hd c (a.eval x) →
      ∃ u, (execOp a.eval o).run E.P w = .ok (.value u) w ∧ RepV (memOf w) N s' hd v u) : Good E X o st { v, s, r := rd } := by
  refine Good.val fun st' he hm a w N hd' F I => ?_
  have h1 := I.eval x
  rw [he x hx, hc] at h1
  exact h hm I.s h1

theorem good_two {x y : Operand} {c d : C} (hc : st.eval x = .one c) (hx : x ∈ o.op.operands) (hd : st.eval y = .one d) (hy : y ∈ o.op.operands) {v : V} {s : Sto} {rd : List Nat}
    (h : ∀ {a : Act} {w : World} {N : Nat → Prop} {s' : Sto} {hd : Nat → Value} {F : Nat → List Nat}, (∀ i ∈ rd, s' i = st.o i) → SInv (memOf w) N s' hd F w.heap.size → RepC (memOf w) N s' hd c (a.eval x) → RepC (memOf w) N s' hd d (a.eval y) →
      ∃ u, (execOp a.eval o).run E.P w = .ok (.value u) w ∧ RepV (memOf w) N s' hd v u) : Good E X o st { v, s, r := rd } := by
  refine Good.val fun st' he hm a w N hd' F I => ?_
  have h1 := I.eval x
  rw [he x hx, hc] at h1
  have h2 := I.eval y
  rw [he y hy, hd] at h2
  exact h hm I.s h1 h2

theorem tree_node {mem : Mem} {N : Nat → Prop} {op v : Int} {l r : List Int} {kids : List Tree} {u : Value} (h : RepTree mem N (.mk op v l r kids) u) :
    ∃ b off es, u = .pointer (some ⟨b, off, none⟩) ∧ N b ∧ RepT mem N (.agg nodeTy) (op, v, l, r, kids, ()) es [] ∧ cellsIn mem b off es := by
  cases h with
  | mk _ _ _ _ _ b off lv rv a cap kvs hb hc hl hr hcap hlen hk hm =>
    exact ⟨b, off, _, rfl, hb, ⟨[_], _, [], [], rfl, rfl, ⟨rfl, rfl⟩, [_], _, [], [], rfl, rfl, ⟨rfl, rfl⟩, [_], _, [], [], rfl, rfl, hl.rep, [_], _, [], [], rfl, rfl, hr.rep, [_], [], [], [], rfl, rfl, RepT.of_trees hcap hlen hk hm, rfl, rfl⟩, hc⟩

theorem good_nilCheck {x : Operand} (ho : o.op = .nilCheck x) (h : exOp E O o st K = some r) : ∃ e, K e = some r ∧ Good E X o st e := by
  have hx : x ∈ o.op.operands := by rw [ho]; simp [Op.operands]
  have run : ∀ {a : Act} {w : World} {ad : Addr}, a.eval x = .pointer (some ad) → (execOp a.eval o).run E.P w = .ok (.value (a.eval x)) w := by
    intro a w ad h; simp [execOp, ho, h]
  simp only [exOp, ho] at h
  split at h
  · rename_i id v off hc
    split at h
    · rename_i hif
      refine ⟨_, h, good_one hc hx fun {a w N s' hd F} hm I hv => ?_⟩
      have hid := hm id (by simp)
      obtain ⟨g, e1, e2⟩ := hv.2.2 (by rw [hid]; exact hif.1) (by rw [hid]; exact hif.2)
      exact ⟨_, run e2, hv⟩
    · cases h
  · rename_i id v i off hc
    split at h
    · rename_i hif
      refine ⟨_, h, good_one hc hx fun {a w N s' hd F} hm I hv => ?_⟩
      have hid := hm id (by simp)
      obtain ⟨g, len, cap, e1, e2⟩ := hv.2.2 (by rw [hid]; exact hif.1) (by rw [hid]; exact hif.2)
      exact ⟨_, run e2, hv⟩
    · cases h
  · rename_i τ y off hc
    refine ⟨_, h, good_one hc hx fun {a w N s' hd F} hm I hv => ?_⟩
    have hv' := hv
    obtain ⟨b, o', es, h1, _⟩ := hv'
    exact ⟨_, run h1, hv⟩
  · rename_i e0 y0 hc
    obtain ⟨y, hy, h⟩ := Option.bind_eq_some_iff.1 h
    refine ⟨_, h, good_one hc hx fun {a w N s' hd F} hm I hv => ?_⟩
    have hv' : RepT (memOf w) N (.optr e0) y0 [a.eval x] [] := hv
    have hy' : y0 = some y := hy
    subst hy'
    obtain ⟨_, b, off, es, h1, h2, h3, h4⟩ := hv'
    have e : a.eval x = .pointer (some ⟨b, off, none⟩) := by simpa using h1
    exact ⟨_, run e, b, off, es, by rw [e]; rfl, h2, h3, h4⟩
  · rename_i y hc
    split at h
    · cases h
    · rename_i op v l r' kids
      refine ⟨_, h, good_one hc hx fun {a w N s' hd F} hm I hv => ?_⟩
      obtain ⟨_, u, hu, ht⟩ := hv
      obtain ⟨b, off, es, h1, h2, h3, h4⟩ := tree_node ht
      have e : a.eval x = .pointer (some ⟨b, off, none⟩) := by simp at hu; rw [hu, h1]
      exact ⟨_, run e, b, off, es, by rw [e]; rfl, h2, h3, h4⟩
  · cases h

theorem good_fieldAddr {t : TypeId} {x : Operand} {i : Nat} (ho : o.op = .fieldAddr t x i) (h : exOp E O o st K = some r) : ∃ e, K e = some r ∧ Good E X o st e := by
  have hx : x ∈ o.op.operands := by rw [ho]; simp [Op.operands]
  simp only [exOp, ho] at h
  split at h
  · cases h
  · rename_i f hf
    split at h
    · cases h
    · rename_i hsz
      have hfs : ∃ fs, E.P.underlying t = some (.struct fs) ∧ fs[i]? = some f := by
        unfold fieldsP at hf
        split at hf
        · rename_i fs hu; exact ⟨fs, hu, by simpa using hf⟩
        · simp at hf
      obtain ⟨fs, hu, hfi⟩ := hfs
      have run : ∀ {a : Act} {w : World} {b off : Nat}, a.eval x = .pointer (some ⟨b, off, none⟩) → (execOp a.eval o).run E.P w = .ok (.value (.pointer (some ⟨b, off + f.offset, none⟩))) w := by
        intro a w b off h
        simp [execOp, ho, h, Instr.fieldAt, run_underlying hu, hfi, Instr.sureAddr, fieldPlace, run_sizeOf hsz, hsz, Addr.add_none]
      obtain ⟨c, hc, h⟩ := one_some h
      split at h
      · rename_i id v off
        split at h
        · rename_i hif
          refine ⟨_, h, good_one hc hx fun {a w N s' hd F} hm I hv => ?_⟩
          have hid := hm id (by simp)
          obtain ⟨g, e1, e2⟩ := hv.2.2 (by rw [hid]; exact hif.1) (by rw [hid]; exact hif.2)
          exact ⟨_, run e2, hv.1, rfl, fun _ _ => ⟨g, e1, rfl⟩⟩
        · cases h
      · rename_i id v i' off
        split at h
        · rename_i hif
          refine ⟨_, h, good_one hc hx fun {a w N s' hd F} hm I hv => ?_⟩
          have hid := hm id (by simp)
          obtain ⟨g, len, cap, e1, e2⟩ := hv.2.2 (by rw [hid]; exact hif.1) (by rw [hid]; exact hif.2)
          exact ⟨_, run e2, hv.1, rfl, fun _ _ => ⟨g, len, cap, e1, by rw [Nat.add_assoc]⟩⟩
        · cases h
      · rename_i τ y off
        refine ⟨_, h, good_one hc hx fun {a w N s' hd F} hm I hv => ?_⟩
        obtain ⟨b, o', es, h1, h2, h3, h4⟩ := hv
        exact ⟨_, run h1, b, o', es, by rw [Nat.add_assoc], h2, h3, h4⟩
      · cases h

theorem good_field {t : TypeId} {x : Operand} {i : Nat} (ho : o.op = .field t x i) (h : exOp E O o st K = some r) : ∃ e, K e = some r ∧ Good E X o st e := by
  have hx : x ∈ o.op.operands := by rw [ho]; simp [Op.operands]
  simp only [exOp, ho] at h
  split at h
  · rename_i f cs hf hc
    split at h
    · rename_i hif
      obtain ⟨hok, hl, h1⟩ := hif
      have hfs : ∃ fs, E.P.underlying t = some (.struct fs) ∧ fs[i]? = some f := by
        unfold fieldsP at hf
        split at hf
        · rename_i fs hu; exact ⟨fs, hu, by simpa using hf⟩
        · simp at hf
      obtain ⟨fs, hu, hfi⟩ := hfs
      refine ⟨_, h, Good.val fun st' he hm a w N hd' F I => ?_⟩
      have hv := I.eval x
      rw [he x hx, hc] at hv
      obtain ⟨us, e1, e2⟩ := hv
      have e3 := (e2.drop (n := f.offset)).take (n := szP E.P f.type)
      have hlu : ((us.drop f.offset).take (szP E.P f.type)).length = szP E.P f.type := by rw [e3.len]; exact hl
      cases hag : isAggP E.P f.type with
      | true =>
        refine ⟨.agg ⟨(us.drop f.offset).take (szP E.P f.type)⟩, ?_, _, rfl, e3⟩
        have hs : (sizeOf f.type).run E.P w = .ok (szP E.P f.type) w := by
          unfold okP at hok
          obtain ⟨d, hd⟩ := Option.isSome_iff_exists.1 hok
          obtain ⟨i, hi⟩ := info_of_underlying hd
          simp [sizeOf, typeInfo, hi, szP]
        have hex : (us.toArray.extract f.offset (f.offset + szP E.P f.type)) = ((us.drop f.offset).take (szP E.P f.type)).toArray := by
          simp [List.extract_toArray]
        simp [execOp, ho, Instr.field, run_underlying hu, hfi, e1, asAgg, part, run_isAgg hok, hag, hs]
      | false =>
        have hs1 := h1 hag
        rw [hs1] at hlu e3
        have hg : ∃ u, us[f.offset]? = some u ∧ (us.drop f.offset).take 1 = [u] := by
          cases hd : us.drop f.offset with
          | nil => rw [hd] at hlu; simp at hlu
          | cons u rr =>
            refine ⟨u, ?_, rfl⟩
            have := List.getElem?_drop (xs := us) (i := f.offset) (j := 0)
            rw [hd] at this; simpa using this.symm
        obtain ⟨u, hg, ht⟩ := hg
        rw [ht] at e3
        refine ⟨u, ?_, by rw [hs1]; exact (ofCells_rep (ag := false) e3 (by simp)).1⟩
        simp [execOp, ho, Instr.field, run_underlying hu, hfi, e1, asAgg, part, run_isAgg hok, hag, hg]
    · cases h
  · cases h

theorem good_unOp {op : UnOp} {t : TypeId} {x : Operand} (ho : o.op = .unOp op t x) (h : exOp E O o st K = some r) : ∃ e, K e = some r ∧ Good E X o st e := by
  have hx : x ∈ o.op.operands := by rw [ho]; simp [Op.operands]
  simp only [exOp, ho] at h
  obtain ⟨c, hc, h⟩ := one_some h
  unfold unC at h
  split at h
  · refine ⟨_, h, good_one hc hx fun {a w N s' hd F} hm I hv => ⟨_, ?_, rfl, rfl⟩⟩
    have e := hv.1
    simp at e
    simp [execOp, ho, e, Op.unary]
  · rename_i k y
    refine ⟨_, h, good_one hc hx fun {a w N s' hd F} hm I hv => ⟨_, ?_, rfl, rfl⟩⟩
    have e := hv.1
    simp at e
    simp [execOp, ho, e, Op.unary, Op.intArith]
  · refine ⟨_, h, good_one hc hx fun {a w N s' hd F} hm I hv => ⟨.int _ (bitsI .xor _ _ _), ?_, rfl, rfl⟩⟩
    have e := hv.1
    simp at e
    simp [execOp, ho, e, Op.unary, Op.intBits, bitsI]
  · cases h

theorem good_extract {x : Operand} {i : Nat} (ho : o.op = .extract x i) (h : exOp E O o st K = some r) : ∃ e, K e = some r ∧ Good E X o st e := by
  have hx : x ∈ o.op.operands := by rw [ho]; simp [Op.operands]
  simp only [exOp, ho] at h
  split at h
  · rename_i vs hc
    split at h
    · rename_i ag cs hg
      refine ⟨_, h, Good.val fun st' he hm a w N hd' F I => ?_⟩
      have hv := I.eval x
      rw [he x hx, hc] at hv
      obtain ⟨us, e1, e2⟩ := hv
      have key : ∀ (vs : List (Bool × List C)) (us : List Value) (i : Nat), RepPs (memOf w) N st'.o hd' vs us → vs[i]? = some (ag, cs) → ∃ u, us[i]? = some u ∧ RepP (memOf w) N st'.o hd' (ag, cs) u := by
        intro vs
        induction vs with
        | nil => intro us i _ h; simp at h
        | cons p vs ih =>
          intro us i hr h
          cases us with
          | nil => exact hr.elim
          | cons u us =>
            cases i with
            | zero => simp at h; subst h; exact ⟨u, rfl, hr.1⟩
            | succ i => simp at h; simpa using ih us i hr.2 h
      obtain ⟨u, hu, hp⟩ := key vs us i e2 hg
      refine ⟨u, by simp [execOp, ho, e1, Instr.extract, hu], ?_⟩
      cases ag with
      | true => exact hp
      | false =>
        match cs, hp with
        | [c], hp => exact hp
    · cases h
  · cases h
end

end Go.Proofs.YtndnhbihcnlpaaaDoorSt.Ev

/- The evaluator: operations that reckon. -/
namespace Go.Proofs.YtndnhbihcnlpaaaDoorSt.Ev
open Go

theorem imm_int {m : Mem} {N : Nat → Prop} {s : Sto} {hd : Nat → Value} {k : IntKind} {x : Int} {v : Value} (h : RepC m N s hd (.imm (.int k) x) v) : v = .int k x := by simpa using h.1
theorem imm_bool {m : Mem} {N : Nat → Prop} {s : Sto} {hd : Nat → Value} {x : Bool} {v : Value} (h : RepC m N s hd (.imm .bool x) v) : v = .bool x := by simpa using h.1
theorem imm_str {m : Mem} {N : Nat → Prop} {s : Sto} {hd : Nat → Value} {x : List UInt8} {v : Value} (h : RepC m N s hd (.imm .str x) v) : v = .string ⟨⟨x⟩⟩ := by simpa using h.1

theorem toList_loop (b : ByteArray) (i : Nat) (acc : List UInt8) : ByteArray.toList.loop b i acc = acc.reverse ++ b.data.toList.drop i := by
  fun_induction ByteArray.toList.loop b i acc with
  | case1 i acc h ih =>
    have h' : i < b.data.size := h
    have h2 : b.data.toList.drop i = b.data.toList[i]'(by simpa using h') :: b.data.toList.drop (i + 1) := List.drop_eq_getElem_cons (by simpa using h')
    rw [ih, List.reverse_cons, List.append_assoc, h2]
    congr 1
    show b.data[i]! :: _ = _
    rw [getElem!_pos b.data i h']
    rfl
  | case2 i acc h =>
    have h' : b.data.size ≤ i := Nat.le_of_not_lt h
    rw [List.drop_eq_nil_of_le (by simpa using h'), List.append_nil]

theorem toList_mk (x : List UInt8) : (ByteArray.mk ⟨x⟩).toList = x := by
  show ByteArray.toList.loop _ 0 [] = x
  rw [toList_loop]; rfl

theorem append_mk (x y : List UInt8) : (ByteArray.mk ⟨x⟩) ++ (ByteArray.mk ⟨y⟩) = ByteArray.mk ⟨x ++ y⟩ := by
  apply ByteArray.ext
  rw [ByteArray.data_append]
  simp

theorem size_mk (x : List UInt8) : (ByteArray.mk ⟨x⟩).size = x.length := by simp [ByteArray.size]

theorem extract_mk (x : List UInt8) (l h : Nat) : (ByteArray.mk ⟨x⟩).extract l h = ByteArray.mk ⟨(x.take h).drop l⟩ := by
  apply ByteArray.ext
  rw [ByteArray.data_extract]
  simp [List.extract_toArray, List.drop_take]

section
variable {E : Env} {O : Oracle E} {X : Ctx} {o : Oper} {st : St} {R : Type} {K : Eff → Option R} {r : R}

theorem good_binOp {op : BinOp} {t yt : TypeId} {x y : Operand} (ho : o.op = .binOp op t x y yt) (h : exOp E O o st K = some r) : ∃ e, K e = some r ∧ Good E X o st e := by
  have hx : x ∈ o.op.operands := by rw [ho]; simp [Op.operands]
  have hy : y ∈ o.op.operands := by rw [ho]; simp [Op.operands]
  simp only [exOp, ho] at h
  replace h := one_some h
  obtain ⟨c, hc, h⟩ := h
  replace h := one_some h
  obtain ⟨d, hd, h⟩ := h
  unfold binC at h
  split at h
  · rename_i k u k' v
    have fin : ∀ z : C, (∀ a : Act, a.eval x = .int k u → a.eval y = .int k' v → ∀ w, ∃ q, (execOp a.eval o).run E.P w = .ok (.value q) w ∧ ∀ {m : Mem} {N : Nat → Prop} {s : Sto} {hd : Nat → Value}, RepC m N s hd z q) → Good E X o st { v := .one z, s := st.o, r := [] } := by
      intro z hz
      refine good_two hc hx hd hy fun {a w N s' hd F} hm I h1 h2 => ?_
      obtain ⟨q, h3, h4⟩ := hz a (imm_int h1) (imm_int h2) w
      exact ⟨q, h3, h4⟩
    split at h
    · split at h
      · cases h
      · rename_i hneg
        exact ⟨_, h, fin _ fun a e1 e2 w => ⟨_, by simp [execOp, ho, e1, e2, eqGuard_shl, binOp_shl, Op.shift, hneg] <;> rfl, rfl, rfl⟩⟩
    · split at h
      · cases h
      · rename_i hneg
        exact ⟨_, h, fin _ fun a e1 e2 w => ⟨_, by simp [execOp, ho, e1, e2, eqGuard_shr, binOp_shr, Op.shift, hneg] <;> rfl, rfl, rfl⟩⟩
    · split at h
      · rename_i hk
        subst hk
        unfold binInt at h
        split at h
        · exact ⟨_, h, fin _ fun a e1 e2 w => ⟨_, by simp [execOp, ho, e1, e2, eqGuard_add, binOp_add, Op.intArith], rfl, rfl⟩⟩
        · exact ⟨_, h, fin _ fun a e1 e2 w => ⟨_, by simp [execOp, ho, e1, e2, eqGuard_sub, binOp_sub, Op.intArith], rfl, rfl⟩⟩
        · exact ⟨_, h, fin _ fun a e1 e2 w => ⟨_, by simp [execOp, ho, e1, e2, eqGuard_mul, binOp_mul, Op.intArith], rfl, rfl⟩⟩
        · split at h
          · cases h
          · rename_i h0
            exact ⟨_, h, fin _ fun a e1 e2 w => ⟨_, by simp [execOp, ho, e1, e2, eqGuard_quo, binOp_quo, Op.intDiv, h0], rfl, rfl⟩⟩
        · split at h
          · cases h
          · rename_i h0
            exact ⟨_, h, fin _ fun a e1 e2 w => ⟨_, by simp [execOp, ho, e1, e2, eqGuard_rem, binOp_rem, Op.intDiv, h0], rfl, rfl⟩⟩
        · exact ⟨_, h, fin _ fun a e1 e2 w => ⟨_, by simp [execOp, ho, e1, e2, eqGuard_and, binOp_and, Op.intBits] <;> rfl, rfl, rfl⟩⟩
        · exact ⟨_, h, fin _ fun a e1 e2 w => ⟨_, by simp [execOp, ho, e1, e2, eqGuard_or, binOp_or, Op.intBits] <;> rfl, rfl, rfl⟩⟩
        · exact ⟨_, h, fin _ fun a e1 e2 w => ⟨_, by simp [execOp, ho, e1, e2, eqGuard_xor, binOp_xor, Op.intBits] <;> rfl, rfl, rfl⟩⟩
        · exact ⟨_, h, fin _ fun a e1 e2 w => ⟨_, by simp [execOp, ho, e1, e2, eqGuard_at_int, binOp_eql], rfl, rfl⟩⟩
        · exact ⟨_, h, fin _ fun a e1 e2 w => ⟨_, by simp [execOp, ho, e1, e2, eqGuard_at_int, binOp_neq], rfl, rfl⟩⟩
        · exact ⟨_, h, fin _ fun a e1 e2 w => ⟨_, by simp [execOp, ho, e1, e2, eqGuard_at_int, binOp_lss], rfl, rfl⟩⟩
        · exact ⟨_, h, fin _ fun a e1 e2 w => ⟨_, by simp [execOp, ho, e1, e2, eqGuard_at_int, binOp_leq], rfl, rfl⟩⟩
        · exact ⟨_, h, fin _ fun a e1 e2 w => ⟨_, by simp [execOp, ho, e1, e2, eqGuard_at_int, binOp_gtr], rfl, rfl⟩⟩
        · exact ⟨_, h, fin _ fun a e1 e2 w => ⟨_, by simp [execOp, ho, e1, e2, eqGuard_at_int, binOp_geq], rfl, rfl⟩⟩
        · cases h
      · cases h
  · rename_i u v
    split at h
    · rename_i htb
      have ht : E.P.underlying t = some .bool := by
        unfold isBoolT at htb
        split at htb
        · assumption
        · cases htb
      split at h
      · refine ⟨_, h, good_two hc hx hd hy fun {a w N s' hd F} hm I h1 h2 => ⟨.bool (u == v), ?_, rfl, rfl⟩⟩
        have e1 := imm_bool h1; have e2 := imm_bool h2
        simp [execOp, ho, e1, e2, eqGuard_at_bool, binOp, run_equal_bool _ _ _ _ ht]
      · refine ⟨_, h, good_two hc hx hd hy fun {a w N s' hd F} hm I h1 h2 => ⟨.bool (!(u == v)), ?_, rfl, rfl⟩⟩
        have e1 := imm_bool h1; have e2 := imm_bool h2
        simp [execOp, ho, e1, e2, eqGuard_at_bool, binOp, run_equal_bool _ _ _ _ ht]
      · cases h
    · cases h
  · rename_i u v
    have fin : ∀ z : C, (∀ a : Act, a.eval x = .string ⟨⟨u⟩⟩ → a.eval y = .string ⟨⟨v⟩⟩ → ∀ w, ∃ q, (execOp a.eval o).run E.P w = .ok (.value q) w ∧ ∀ {m : Mem} {N : Nat → Prop} {s : Sto} {hd : Nat → Value}, RepC m N s hd z q) → Good E X o st { v := .one z, s := st.o, r := [] } := by
      intro z hz
      refine good_two hc hx hd hy fun {a w N s' hd F} hm I h1 h2 => ?_
      obtain ⟨q, h3, h4⟩ := hz a (imm_str h1) (imm_str h2) w
      exact ⟨q, h3, h4⟩
    unfold binStr at h
    split at h
    · split at h
      · rename_i hlen
        refine ⟨_, h, fin _ fun a e1 e2 w => ⟨.string ⟨⟨u ++ v⟩⟩, ?_, rfl, rfl⟩⟩
        have hsz : ¬ (9223372036854775807 < ((List.length u : Nat) : Int) + ((List.length v : Nat) : Int)) := by omega
        simp [execOp, ho, e1, e2, eqGuard_at_string, binOp, Op.stringOp, append_mk, size_mk, hsz]
      · cases h
    · exact ⟨_, h, fin _ fun a e1 e2 w => ⟨.bool (u == v), by simp [execOp, ho, e1, e2, eqGuard_at_string, binOp, Op.stringOp, toList_mk], rfl, rfl⟩⟩
    · exact ⟨_, h, fin _ fun a e1 e2 w => ⟨.bool (!(u == v)), by simp [execOp, ho, e1, e2, eqGuard_at_string, binOp, Op.stringOp, toList_mk], rfl, rfl⟩⟩
    · exact ⟨_, h, fin _ fun a e1 e2 w => ⟨.bool (Op.bytesLess u v), by simp [execOp, ho, e1, e2, eqGuard_at_string, binOp, Op.stringOp, toList_mk], rfl, rfl⟩⟩
    · exact ⟨_, h, fin _ fun a e1 e2 w => ⟨.bool (Op.bytesLess u v || u == v), by simp [execOp, ho, e1, e2, eqGuard_at_string, binOp, Op.stringOp, toList_mk], rfl, rfl⟩⟩
    · exact ⟨_, h, fin _ fun a e1 e2 w => ⟨.bool (!(Op.bytesLess u v || u == v)), by simp [execOp, ho, e1, e2, eqGuard_at_string, binOp, Op.stringOp, toList_mk], rfl, rfl⟩⟩
    · exact ⟨_, h, fin _ fun a e1 e2 w => ⟨.bool (!Op.bytesLess u v), by simp [execOp, ho, e1, e2, eqGuard_at_string, binOp, Op.stringOp, toList_mk], rfl, rfl⟩⟩
    · cases h
  · cases h

/-- A slice that is read. -/
theorem getSl_ok {c : C} {s : Sto} {K : (e : Ty) → List e.den → List Nat → Option R} (h : getSl c s K = some r) :
    ∃ e xs m, K e xs m = some r ∧ ∀ s' : Sto, (∀ i ∈ m, s' i = s i) → ∀ {mem : Mem} {N : Nat → Prop} {hd : Nat → Value} {F : Nat → List Nat} {size : Nat}, SInv mem N s' hd F size → ∀ v, RepC mem N s' hd c v →
      ∃ N', (e.isImm = true → RepT mem N' (.sl e) xs [v] []) ∧ (∀ k, N k → N' k) ∧ (∀ k, N' k → N k ∨ ∃ i ∈ m, k ∈ F i) ∧ ∃ a cap, v = .slice a (List.length xs) cap := by
  have slice_len : ∀ {mem : Mem} {N' : Nat → Prop} {e : Ty} {xs : List e.den} {v : Value}, RepT mem N' (.sl e) xs [v] [] → ∃ a cap, v = .slice a (List.length xs) cap := by
    intro mem N' e xs v hh
    obtain ⟨_, a, cap, es, e1, _⟩ := hh
    exact ⟨a, cap, by simpa using e1⟩
  have sub_len : ∀ {v hdv : Value} {a : Option Addr} {n cap sz lo hi : Nat}, hdv = .slice a n cap → v = subV hdv sz lo hi → ∃ a' cap', v = .slice a' (hi - lo) cap' := by
    intro v hdv a n cap sz lo hi h1 h2
    subst h1; exact ⟨_, _, h2⟩
  cases c with
  | imm τ x =>
    cases τ with
    | sl e =>
      refine ⟨e, x, [], h, fun s' _ mem N hd F size I v hv => ⟨N, fun _ => hv, fun _ h => h, fun _ h => .inl h, slice_len hv⟩⟩
    | _ => cases h
  | own id ver =>
    simp only [getSl] at h
    split at h
    · rename_i v e xs hs
      split at h
      · rename_i hv
        subst hv
        refine ⟨e, xs, [id], h, fun s' hs' mem N hd F size I u hu => ?_⟩
        have hid := hs' id (by simp); rw [hs] at hid
        have hob := I.obj id; rw [hid] at hob
        have e1 := RepC.own_hd hu hid rfl
        subst e1
        exact ⟨fun k => N k ∨ k ∈ F id, fun he => RepT.read0 he (fun b hb => .inl hb) (fun k hk => .inr hk) hob, fun _ h => .inl h, fun k hk => hk.imp (fun h => h) (fun h => ⟨id, by simp, h⟩), RepT.own_len hob⟩
      · cases h
    · rename_i v e xs hs
      split at h
      · rename_i hv
        subst hv
        refine ⟨e, xs, [id], h, fun s' hs' mem N hd F size I u hu => ?_⟩
        have hid := hs' id (by simp); rw [hs] at hid
        have hob := I.obj id; rw [hid] at hob
        have e1 := RepC.own_hd hu hid rfl
        subst e1
        exact ⟨N, fun _ => hob.2, fun _ h => h, fun _ h => .inl h, slice_len hob.2⟩
      · cases h
    · cases h
  | sub id ver lo hi =>
    simp only [getSl] at h
    split at h
    · rename_i v e xs hs
      split at h
      · rename_i hv
        subst hv
        refine ⟨e, _, [id], h, fun s' hs' mem N hd F size I u hu => ?_⟩
        have hid := hs' id (by simp); rw [hs] at hid
        have hob := I.obj id; rw [hid] at hob
        obtain ⟨e1, e2, e3⟩ := RepC.sub_hd hu hid rfl
        obtain ⟨a, cap, hl⟩ := RepT.own_len hob
        have hle : List.length ((xs.take hi).drop lo) = hi - lo := by
          have e3' : hi ≤ List.length xs := e3
          rw [List.length_drop, List.length_take]; omega
        refine ⟨fun k => N k ∨ k ∈ F id, fun he => ?_, fun _ h => .inl h, fun k hk => hk.imp (fun h => h) (fun h => ⟨id, by simp, h⟩), ?_⟩
        · have := RepT.read0 (N' := fun k => N k ∨ k ∈ F id) he (fun b hb => .inl hb) (fun k hk => .inr hk) hob
          rw [e1]; exact RepT.slice this e2 e3
        · rw [hle]; exact sub_len hl e1
      · cases h
    · rename_i v e xs hs
      split at h
      · rename_i hv
        subst hv
        refine ⟨e, _, [id], h, fun s' hs' mem N hd F size I u hu => ?_⟩
        have hid := hs' id (by simp); rw [hs] at hid
        have hob := I.obj id; rw [hid] at hob
        obtain ⟨e1, e2, e3⟩ := RepC.sub_hd hu hid rfl
        have hr := RepT.slice hob.2 e2 e3
        subst e1
        exact ⟨N, fun _ => hr, fun _ h => h, fun _ h => .inl h, slice_len hr⟩
      · cases h
    · cases h
  | _ => cases h

theorem run_len_slice' {P : Program} {w : World} {ts : Array TypeId} {t : TypeId} {te : TypeId} (h0 : ts[0]? = some t) (h : P.underlying t = some (.slice te)) (ty : TypeId) (a : Option Addr) (n c : Nat) : (Builtin.len_ ts ty #[.slice a n c]).run P w = .ok (.int .i64 n) w := by
  simp [Builtin.len_, h0, run_underlying h, goInt]

theorem good_len {ca : Call} {x : Operand} (ho : o.op = .call ca) (hca : ca.callee = .builtin .len) (hargs : ca.args.toList = [x]) (h : exOp E O o st K = some r) : ∃ e, K e = some r ∧ Good E X o st e := by
  have hargs' : ca.args = #[x] := by rw [← Array.toArray_toList (xs := ca.args), hargs]
  have hx : x ∈ o.op.operands := by rw [ho]; simp [Op.operands, Call.operands, hca, hargs']
  simp only [exOp, ho, hca, hargs] at h
  replace h := one_some h
  obtain ⟨c, hc, h⟩ := h
  have hty : ∀ d, ca.argTypes0 E.P = some d → ∃ t, ca.argTypes[0]? = some t ∧ E.P.underlying t = some d := by
    intro d hd
    unfold Go.Call.argTypes0 at hd
    exact Option.bind_eq_some_iff.1 hd
  unfold lenC at h
  split at h
  · rename_i ht
    obtain ⟨t, h0, hu⟩ := hty _ ht
    split at h
    · rename_i y
      refine ⟨_, h, good_one hc hx fun {a w N s' hd F} hm I hv => ⟨.int .i64 (List.length y : Nat), ?_, rfl, rfl⟩⟩
      have e1 := imm_str hv
      simp [execOp, ho, resolve, hca, hargs', invoke, builtin, Builtin.len_, h0, run_underlying hu, e1, goInt, size_mk]
    · cases h
  · rename_i te ht
    obtain ⟨t, h0, hu⟩ := hty _ ht
    split at h
    · refine ⟨_, h, good_one hc hx fun {a w N s' hd F} hm I hv => ?_⟩
      obtain ⟨a', e1⟩ := hv
      exact ⟨.int .i64 (0 : Nat), by simp [execOp, ho, resolve, hca, hargs', invoke, builtin, e1, run_len_slice' h0 hu], rfl, rfl⟩
    · obtain ⟨e, xs, m, h, hg⟩ := getSl_ok h
      refine ⟨_, h, good_one hc hx fun {a w N s' hd F} hm I hv => ?_⟩
      obtain ⟨N', _, _, _, a', cap, e1⟩ := hg s' hm I _ hv
      exact ⟨.int .i64 (List.length xs : Nat), by simp [execOp, ho, resolve, hca, hargs', invoke, builtin, e1, run_len_slice' h0 hu], rfl, rfl⟩
  · rename_i ht
    obtain ⟨t, h0, hu⟩ := hty _ ht
    split at h
    · rename_i id ver
      split at h
      · rename_i v τ xs hs
        split at h
        · rename_i hv'
          subst hv'
          refine ⟨_, h, good_one hc hx fun {a w N s' hd F} hm I hv => ?_⟩
          have hid := hm id (by simp); rw [hs] at hid
          have hob := I.obj id; rw [hid] at hob
          have e0 : a.eval x = hd id := hv.2.2 (by rw [hid]) (by rw [hid]; rfl)
          obtain ⟨g, es, clock, e1, e2, e3, _, _⟩ := hob
          have e1' : hd id = .map (some g) := by simpa using e1
          rw [e1'] at e0
          have hg : w.heap[g]? = some (.map es clock) := e2
          exact ⟨.int .i64 (List.length xs : Nat), by simp [execOp, ho, resolve, hca, hargs', invoke, builtin, Builtin.len_, h0, run_underlying hu, e0, MapKept.run_getObj_map hg, goInt, e3], rfl, rfl⟩
        · cases h
      · cases h
    · cases h
  · cases h

theorem good_minmax {ca : Call} {x y : Operand} (ho : o.op = .call ca) (hca : ca.callee = .builtin .min ∨ ca.callee = .builtin .max) (hargs : ca.args.toList = [x, y]) (h : exOp E O o st K = some r) : ∃ e, K e = some r ∧ Good E X o st e := by
  have hargs' : ca.args = #[x, y] := by rw [← Array.toArray_toList (xs := ca.args), hargs]
  have hx : x ∈ o.op.operands := by rw [ho]; rcases hca with hca | hca <;> simp [Op.operands, Call.operands, hca, hargs']
  have hy : y ∈ o.op.operands := by rw [ho]; rcases hca with hca | hca <;> simp [Op.operands, Call.operands, hca, hargs']
  rcases hca with hca | hca
  all_goals
    simp only [exOp, ho, hca, hargs] at h
    replace h := one_some h
    obtain ⟨c, hc, h⟩ := h
    replace h := one_some h
    obtain ⟨d, hd, h⟩ := h
    split at h
    · refine ⟨_, h, good_two hc hx hd hy fun {a w N s' hd F} hm I h1 h2 => ⟨.int _ _, ?_, rfl, rfl⟩⟩
      have e1 := imm_int h1; have e2 := imm_int h2
      simp [execOp, ho, resolve, hca, hargs', invoke, builtin, Builtin.min_, Builtin.max_, Builtin.min2, Builtin.max2, e1, e2]
    · cases h

theorem good_index {t : TypeId} {x i : Operand} (ho : o.op = .index t x i) (h : exOp E O o st K = some r) : ∃ e, K e = some r ∧ Good E X o st e := by
  have hx : x ∈ o.op.operands := by rw [ho]; simp [Op.operands]
  have hi : i ∈ o.op.operands := by rw [ho]; simp [Op.operands]
  simp only [exOp, ho] at h
  replace h := one_some h
  obtain ⟨c, hc, h⟩ := h
  split at h
  · rename_i s
    replace h := one_some h
    obtain ⟨d, hd, h⟩ := h
    split at h
    · rename_i k j
      split at h
      · rename_i hu
        obtain ⟨b, hb, h⟩ := Option.bind_eq_some_iff.1 h
        refine ⟨_, h, good_two hc hx hd hi fun {a w N s' hd F} hm I h1 h2 => ⟨.int .u8 (b.toNat : Nat), ?_, rfl, rfl⟩⟩
        have e1 := imm_str h1; have e2 := imm_int h2
        unfold idx at hb
        split at hb
        · rename_i h0
          have hg : (ByteArray.mk ⟨s⟩)[Int.toNat j]? = some b := by
            obtain ⟨hlt, hg⟩ := List.getElem?_eq_some_iff.1 hb
            have hs : Int.toNat j < (ByteArray.mk ⟨s⟩).size := by rw [size_mk]; exact hlt
            have hp : (ByteArray.mk ⟨s⟩)[Int.toNat j]? = some ((ByteArray.mk ⟨s⟩)[Int.toNat j]'hs) := getElem?_pos (ByteArray.mk ⟨s⟩) _ hs
            rw [hp]
            exact congrArg some hg
          simp [execOp, ho, Instr.index, run_underlying hu, e1, e2, asIntOf, h0, hg]
        · cases hb
      · cases h
    · cases h
  · cases h
end

end Go.Proofs.YtndnhbihcnlpaaaDoorSt.Ev

/- The evaluator: slices, indices, conversions. -/
namespace Go.Proofs.YtndnhbihcnlpaaaDoorSt.Ev
open Go

section
variable {R : Type} {r : R}
theorem boundsK_ok {n : Nat} {st : St} {lo hi : Option Operand} {K : Nat → Nat → Option R} (h : boundsK (n : Int) (lo.map st.eval) (hi.map st.eval) K = some r) :
    ∃ l u, K l u = some r ∧ l ≤ u ∧ u ≤ n ∧ ∀ ev : Operand → Value, (∀ x, lo = some x ∨ hi = some x → ∀ k i, st.eval x = .one (.imm (.int k) i) → ev x = .int k i) →
      ∀ (P : Program) (w : World) (b : Bool) (cap : Nat), n ≤ cap → (Instr.sliceBounds b n cap (lo.map ev) (hi.map ev) none).run P w = .ok (l, u, cap) w := by
  have fin : ∀ (l u : Int), (if 0 ≤ l ∧ l ≤ u ∧ u ≤ (n : Int) then K l.toNat u.toNat else none) = some r → (∀ (ev : Operand → Value), (∀ x, lo = some x ∨ hi = some x → ∀ k i, st.eval x = .one (.imm (.int k) i) → ev x = .int k i) →
      ((lo = none ∧ l = 0) ∨ ∃ x k, lo = some x ∧ ev x = .int k l) ∧ ((hi = none ∧ u = n) ∨ ∃ x k, hi = some x ∧ ev x = .int k u)) →
      ∃ l u, K l u = some r ∧ l ≤ u ∧ u ≤ n ∧ ∀ ev : Operand → Value, (∀ x, lo = some x ∨ hi = some x → ∀ k i, st.eval x = .one (.imm (.int k) i) → ev x = .int k i) →
      ∀ (P : Program) (w : World) (b : Bool) (cap : Nat), n ≤ cap → (Instr.sliceBounds b n cap (lo.map ev) (hi.map ev) none).run P w = .ok (l, u, cap) w := by
    intro l u hk hv
    split at hk
    · rename_i hb
      obtain ⟨b1, b2, b3⟩ := hb
      refine ⟨l.toNat, u.toNat, hk, by omega, by omega, fun ev he P w b cap hc => ?_⟩
      have hu : ((u.toNat : Nat) : Int) = u := Int.toNat_of_nonneg (by omega)
      have hl : ((l.toNat : Nat) : Int) = l := Int.toNat_of_nonneg b1
      obtain ⟨h1, h2⟩ := hv ev he
      have s1 : ∀ k c, (Instr.sliceBound (.int k u) cap c).run P w = .ok u.toNat w := fun k c => run_sliceBound w k u cap c (by omega) (by omega)
      have s2 : ∀ k c, (Instr.sliceBound (.int k l) u.toNat c).run P w = .ok l.toNat w := fun k c => run_sliceBound w k l _ c b1 (by omega)
      rcases h2 with ⟨rfl, e2⟩ | ⟨y, k2, rfl, e2⟩
      · have e3 : u.toNat = n := by omega
        rw [e3] at s2
        rw [e3]
        rcases h1 with ⟨rfl, e1⟩ | ⟨x, k, rfl, e1⟩
        · have e4 : l.toNat = 0 := by omega
          rw [e4]; cases b <;> simp [Instr.sliceBounds]
        · cases b <;> simp [Instr.sliceBounds, e1, s2]
      · rcases h1 with ⟨rfl, e1⟩ | ⟨x, k, rfl, e1⟩
        · have e4 : l.toNat = 0 := by omega
          rw [e4]; cases b <;> simp [Instr.sliceBounds, e2, s1]
        · cases b <;> simp [Instr.sliceBounds, e1, e2, s1, s2]
    · cases hk
  unfold boundsK at h
  dsimp only at h
  cases lo with
  | none =>
    cases hi with
    | none => exact fin _ _ h fun ev he => ⟨.inl ⟨rfl, rfl⟩, .inl ⟨rfl, rfl⟩⟩
    | some y =>
      simp only [Option.map_none, Option.map_some] at h
      split at h
      · cases ‹some (st.eval y) = none›
      · rename_i k i hy
        simp only [Option.some.injEq] at hy
        exact fin _ _ h fun ev he => ⟨.inl ⟨rfl, rfl⟩, .inr ⟨y, k, rfl, he y (.inr rfl) k i hy⟩⟩
      · cases h
  | some x =>
    simp only [Option.map_some] at h
    split at h
    · cases ‹some (st.eval x) = none›
    · rename_i k i hx
      simp only [Option.some.injEq] at hx
      cases hi with
      | none => exact fin _ _ h fun ev he => ⟨.inr ⟨x, k, rfl, he x (.inl rfl) k i hx⟩, .inl ⟨rfl, rfl⟩⟩
      | some y =>
        simp only [Option.map_some] at h
        split at h
        · cases ‹some (st.eval y) = none›
        · rename_i k' i' hy
          simp only [Option.some.injEq] at hy
          exact fin _ _ h fun ev he => ⟨.inr ⟨x, k, rfl, he x (.inl rfl) k i hx⟩, .inr ⟨y, k', rfl, he y (.inr rfl) k' i' hy⟩⟩
        · cases h
    · cases h
end

section
variable {E : Env} {O : Oracle E} {X : Ctx} {o : Oper} {st : St} {R : Type} {K : Eff → Option R} {r : R}

theorem run_slice_sub {P : Program} {w : World} {t te : TypeId} (ht : P.underlying t = some (.slice te)) (hs : szP P te ≠ 0) {a : Option Addr} {n cap l u : Nat} {lo hi : Option Value}
    (hb : (Instr.sliceBounds true n cap lo hi none).run P w = .ok (l, u, cap) w) : (Instr.sliceAt t (.slice a n cap) lo hi none).run P w = .ok (subV (.slice a n cap) (szP P te) l u) w := by
  have hsz := run_sizeOf hs w
  simp [Instr.sliceAt, Instr.slice, run_underlying ht, hb, hsz, subV]

theorem good_slice {t : TypeId} {x : Operand} {lo hi mx : Option Operand} (ho : o.op = .slice t x lo hi mx) (h : exOp E O o st K = some r) : ∃ e, K e = some r ∧ Good E X o st e := by
  have hx : x ∈ o.op.operands := by rw [ho]; simp [Op.operands]
  have hlo : ∀ y, lo = some y ∨ hi = some y → y ∈ o.op.operands := by
    intro y hy; rw [ho]; rcases hy with rfl | rfl <;> simp [Op.operands]
  simp only [exOp, ho] at h
  cases mx with
  | some _ => cases h
  | none =>
  replace h := one_some h
  obtain ⟨c, hc, h⟩ := h
  have gen : ∀ {v : V} {s : Sto} {rd : List Nat}, (∀ {a : Act} {w : World} {N : Nat → Prop} {s' : Sto} {hd : Nat → Value} {F : Nat → List Nat}, (∀ i ∈ rd, s' i = st.o i) → SInv (memOf w) N s' hd F w.heap.size → RepC (memOf w) N s' hd c (a.eval x) →
      (∀ y, lo = some y ∨ hi = some y → ∀ k i, st.eval y = .one (.imm (.int k) i) → a.eval y = .int k i) →
      ∃ u, (Instr.sliceAt t (a.eval x) (lo.map a.eval) (hi.map a.eval) none).run E.P w = .ok u w ∧ RepV (memOf w) N s' hd v u) → Good E X o st { v, s, r := rd } := by
    intro v s rd hg
    refine Good.val fun st' he hm a w N hd' F I => ?_
    have h1 := I.eval x
    rw [he x hx, hc] at h1
    obtain ⟨u, h2, h3⟩ := hg hm I.s h1 fun y hy k i hyi => by
      have h2 := I.eval y
      rw [he y (hlo y hy), hyi] at h2
      exact imm_int (m := memOf w) (N := N) (s := st'.o) (hd := hd') h2
    exact ⟨u, by simp [execOp, ho, h2], h3⟩
  have ew : ∀ {d : TypeDesc}, E.P.underlying t = some d → ∀ {te}, d = .slice te → (elemP E.P t).getD 0 = te := by
    intro d hd te e; subst e; simp [elemP, hd]
  unfold sliceK at h
  split at h
  · rename_i y hu
    obtain ⟨l, u, h, h1, h2, hb⟩ := boundsK_ok h
    refine ⟨_, h, gen fun {a w N s' hd F} hm I hv he => ⟨.string ⟨⟨(y.take u).drop l⟩⟩, ?_, rfl, rfl⟩⟩
    have e1 := imm_str hv
    have hb' := hb a.eval he E.P w false _ (Nat.le_refl _)
    simp [Instr.sliceAt, Instr.slice, run_underlying hu, e1, size_mk, hb', extract_mk]
  · rename_i te e y hu
    split at h
    · rename_i hsz
      obtain ⟨l, u, h, h1, h2, hb⟩ := boundsK_ok h
      rw [ew hu rfl] at hsz
      refine ⟨_, h, gen fun {a w N s' hd F} hm I hv he => ?_⟩
      have hv' := RepT.slice hv h1 h2
      obtain ⟨_, ad, cap, es, e1, hcap, _⟩ := hv
      have e1' : a.eval x = .slice ad (List.length y) cap := by simpa using e1
      rw [e1'] at hv' ⊢
      rw [hsz.1] at hv'
      exact ⟨_, run_slice_sub hu hsz.2 (hb a.eval he E.P w true cap hcap), hv'⟩
    · cases h
  · rename_i te hu
    split at h
    · rename_i hsz
      rw [ew hu rfl] at hsz
      obtain ⟨l, u, h, h1, h2, hb⟩ := boundsK_ok (n := 0) h
      refine ⟨_, h, gen fun {a w N s' hd F} hm I hv he => ?_⟩
      obtain ⟨ad, e1⟩ := hv
      have hu0 : u = 0 := by omega
      have hl0 : l = 0 := by omega
      subst hu0; subst hl0
      rw [e1]
      exact ⟨_, run_slice_sub hu hsz (hb a.eval he E.P w true 0 (Nat.le_refl _)), ad, by simp [subV]⟩
    · cases h
  · rename_i te id ver hu
    split at h
    · rename_i v e xs hs
      split at h
      · rename_i hsz
        obtain ⟨rfl, hsz, hsz'⟩ := hsz
        rw [ew hu rfl] at hsz hsz'
        obtain ⟨l, u, h, h1, h2, hb⟩ := boundsK_ok h
        refine ⟨_, h, gen fun {a w N s' hd F} hm I hv he => ?_⟩
        have hid := hm id (by simp); rw [hs] at hid
        have hob := I.obj id; rw [hid] at hob
        have e1 := RepC.own_hd hv hid rfl
        obtain ⟨ad, cap, hl⟩ := RepT.own_len hob
        have hcap : List.length xs ≤ cap := by
          rcases hob with ⟨_, q1, q2, _⟩ | ⟨g, cap', c, T, es, Fs, q1, q2, q3, q4, _⟩
          · subst q2; simp
          · rw [hl] at q1
            simp at q1
            obtain ⟨_, rfl⟩ := q1
            exact q4
        rw [e1, hl]
        refine ⟨_, run_slice_sub hu hsz' (hb a.eval he E.P w true cap hcap), ?_, ?_, fun q1 q2 => ⟨?_, h1, ?_⟩⟩
        · rw [hid]; exact Nat.le_refl _
        · exact subV_one rfl _ _ _
        · rw [hid, hl]
          show _ = subV _ e.sz l u
          rw [hsz]
        · rw [hid]; exact h2
      · cases h
    · rename_i v e xs hs
      split at h
      · rename_i hsz
        obtain ⟨rfl, hsz, hsz'⟩ := hsz
        rw [ew hu rfl] at hsz hsz'
        obtain ⟨l, u, h, h1, h2, hb⟩ := boundsK_ok h
        refine ⟨_, h, gen fun {a w N s' hd F} hm I hv he => ?_⟩
        have hid := hm id (by simp); rw [hs] at hid
        have hob := I.obj id; rw [hid] at hob
        have e1 := RepC.own_hd hv hid rfl
        have hv' := RepT.slice hob.2 h1 h2
        obtain ⟨_, _, ad, cap, es, e2, hcap, _⟩ := hob
        have e2' : hd id = .slice ad (List.length xs) cap := by simpa using e2
        rw [e1, e2']
        rw [e2', hsz] at hv'
        exact ⟨_, run_slice_sub hu hsz' (hb a.eval he E.P w true cap hcap), hv'⟩
      · cases h
    · cases h
  · cases h

theorem idx_some {α : Type} {xs : List α} {i : Int} {x : α} (h : idx xs i = some x) : 0 ≤ i ∧ i.toNat < xs.length ∧ xs[i.toNat]? = some x := by
  unfold idx at h
  split at h
  · rename_i h0
    exact ⟨h0, (List.getElem?_eq_some_iff.1 h).1, h⟩
  · cases h

theorem run_indexAt' {P : Program} {w : World} {t te : TypeId} (ht : P.underlying t = some (.slice te)) (hs : szP P te ≠ 0) {a : Addr} {n cap : Nat} {k : IntKind} {i : Int} (h0 : 0 ≤ i) (h1 : i < n) :
    (Instr.indexAt t (.slice (some a) n cap) (.int k i)).run P w = .ok (.pointer (some (a.add (i.toNat * szP P te)))) w := by
  have hsz := run_sizeOf hs w
  simp [Instr.indexAt, run_underlying ht, asIntOf, h0, h1, hsz]

theorem arrP_some {P : Program} {t : TypeId} {n : Nat} {te : TypeId} (h : arrP P t = some (n, te)) : P.underlying t = some (.array n te) := by
  unfold arrP at h
  split at h
  · rename_i n' e' hu
    simp only [Option.some.injEq, Prod.mk.injEq] at h
    rw [hu, h.1, h.2]
  · cases h
theorem splitI_some {R : Type} {r : R} {K : Nat → Option R} {i : Int} : ∀ (n k : Nat), splitI n k i K = some r → ∃ j, j < n ∧ i = ((k + j : Nat) : Int) ∧ K (k + j) = some r
  | 0, _, h => by cases h
  | n + 1, k, h => by
    unfold splitI at h
    split at h
    · rename_i hi
      exact ⟨0, by omega, by simpa using hi, h⟩
    · obtain ⟨j, h1, h2, h3⟩ := splitI_some n (k + 1) h
      exact ⟨j + 1, by omega, by rw [h2]; omega, by rw [show k + (j + 1) = k + 1 + j by omega]; exact h3⟩
theorem run_indexArr {P : Program} {w : World} {t te : TypeId} {n : Nat} (ht : P.underlying t = some (.array n te)) (hs : szP P te = 1) (hn : 2 ≤ n) {a : Addr} {k : IntKind} {j : Nat} (h1 : j < n) :
    (Instr.indexAt t (.pointer (some a)) (.int k (j : Int))).run P w = .ok (.pointer (some (a.add j))) w := by
  have hsz := run_sizeOf (P := P) (t := te) (by rw [hs]; decide) w
  have h2 : ¬ (n ≤ 1) := by omega
  simp [Instr.indexAt, run_underlying ht, asIntOf, h1, hsz, hs, Instr.sureAddr, h2]

/-- One element of data that is read, as a pointer to it. -/
theorem RepT.elem {m : Mem} {N : Nat → Prop} {e : Ty} {xs : List e.den} {v : Value} (h : RepT m N (.sl e) xs [v] []) {j : Nat} {x : e.den} (hj : xs[j]? = some x) :
    ∃ b off cap es, v = .slice (some ⟨b, off, none⟩) (List.length xs) cap ∧ N b ∧ RepT m N e x es [] ∧ cellsIn m b (off + j * e.sz) es := by
  obtain ⟨_, a, cap, es, e1, hcap, hl, hr, hm⟩ := h
  obtain ⟨hlt, hx⟩ := List.getElem?_eq_some_iff.1 hj
  have hne : xs ≠ [] := by intro hh; rw [hh] at hlt; simp at hlt
  obtain ⟨b, off, rfl, hb, hc⟩ := hm hne
  have hr' := hr j hlt (by omega)
  rw [hx] at hr'
  refine ⟨b, off, cap, es[j]'(by omega), by simpa using e1, hb, hr', ?_⟩
  have hlen : ∀ y ∈ es, y.length = e.sz := by
    intro y hy
    obtain ⟨i, hi, rfl⟩ := List.mem_iff_getElem.1 hy
    exact (hr i (by omega) hi).len
  have hs := hc.sub (j * e.sz) (1 * e.sz)
  rw [flatten_drop_of_len es j hlen, flatten_take_of_len (es.drop j) 1 (fun x hx => hlen x (List.mem_of_mem_drop hx))] at hs
  have he : (es.drop j).take 1 = [es[j]'(by omega)] := by
    rw [List.drop_eq_getElem_cons (show j < es.length by omega)]; rfl
  rw [he] at hs
  simpa using hs

theorem good_indexAddr {t : TypeId} {x i : Operand} (ho : o.op = .indexAddr t x i) (h : exOp E O o st K = some r) : ∃ e, K e = some r ∧ Good E X o st e := by
  have hx : x ∈ o.op.operands := by rw [ho]; simp [Op.operands]
  have hi : i ∈ o.op.operands := by rw [ho]; simp [Op.operands]
  simp only [exOp, ho] at h
  replace h := one_some h
  obtain ⟨c, hc, h⟩ := h
  replace h := one_some h
  obtain ⟨d, hd, h⟩ := h
  split at h
  · rename_i k j0
    obtain ⟨j, hj'⟩ : ∃ z : Int, z = j0 := ⟨j0, rfl⟩
    subst hj'
    split at h
    · split at h
      · rename_i n te id v off harr
        have hu := arrP_some harr
        split at h
        · rename_i hcond
          obtain ⟨hv, hB, hs1, hn2⟩ := hcond
          obtain ⟨q, q1, q2, h⟩ := splitI_some n 0 h
          refine ⟨_, h, good_two hc hx hd hi fun {a w N s' hd F} hm I h1 h2 => ?_⟩
          have hid := hm id (by simp)
          have e2 := imm_int h2
          obtain ⟨g, g1, g2⟩ := h1.2.2 (by rw [hid]; exact hv) (by rw [hid]; exact hB)
          rw [Nat.zero_add] at q2
          subst q2
          refine ⟨.pointer (some ⟨g, off + q, none⟩), by simp [execOp, ho, e2, g2, run_indexArr hu hs1 hn2 q1, Addr.add], ?_, rfl, fun z1 z2 => ⟨g, g1, by rw [Nat.zero_add]⟩⟩
          exact h1.1
        · cases h
      · cases h
    · rename_i te hte
      have hu := elemP_some hte
      split at h
      · cases h
      · rename_i hsz
        split at h
        · rename_i e xs
          split at h
          · rename_i hez
            obtain ⟨y, hy, h⟩ := Option.bind_eq_some_iff.1 h
            obtain ⟨y0, y1, y2⟩ := idx_some hy
            refine ⟨_, h, good_two hc hx hd hi fun {a w N s' hd F} hm I h1 h2 => ?_⟩
            have e2 := imm_int h2
            obtain ⟨b, off, cap, es, e1, hb, hr, hcl⟩ := RepT.elem h1 y2
            refine ⟨_, ?_, b, _, es, rfl, hb, hr, hcl⟩
            have hlt : j < ((List.length xs : Nat) : Int) := by omega
            simp [execOp, ho, e1, e2, run_indexAt' hu hsz y0 hlt, Addr.add_none, hez]
          · cases h
        · rename_i id ver
          split at h
          · rename_i v e xs hs
            split at h
            · rename_i hez
              obtain ⟨rfl, hez⟩ := hez
              split at h
              · rename_i hb0
                have hb : 0 ≤ j ∧ j < ((List.length xs : Nat) : Int) := hb0
                refine ⟨_, h, good_two hc hx hd hi fun {a w N s' hd F} hm I h1 h2 => ?_⟩
                have hid := hm id (by simp); rw [hs] at hid
                have hob := I.obj id; rw [hid] at hob
                have e1 := RepC.own_hd h1 hid rfl
                have e2 := imm_int h2
                rcases hob with ⟨_, q1, q2, _⟩ | ⟨g, cap, c, T, es, Fs, q1, _⟩
                · subst q2; simp at hb; omega
                · have q1' : hd id = .slice (some ⟨g, 0, none⟩) (List.length xs) cap := by simpa using q1
                  rw [q1'] at e1
                  refine ⟨.pointer (some ⟨g, j.toNat * szP E.P te, none⟩), by simp [execOp, ho, e1, e2, run_indexAt' hu hsz hb.1 hb.2, Addr.add_none], ?_, rfl, fun z1 z2 => ⟨g, _, _, q1', ?_⟩⟩
                  · rw [hid]; exact Nat.le_refl _
                  · rw [hid]
                    show _ = Value.pointer (some ⟨g, j.toNat * e.sz + 0, none⟩)
                    rw [hez]; rfl
              · cases h
            · cases h
          · rename_i v e xs hs
            split at h
            · rename_i hez
              obtain ⟨rfl, hez⟩ := hez
              obtain ⟨y, hy, h⟩ := Option.bind_eq_some_iff.1 h
              obtain ⟨y0, y1, y2⟩ := idx_some hy
              refine ⟨_, h, good_two hc hx hd hi fun {a w N s' hd F} hm I h1 h2 => ?_⟩
              have hid := hm id (by simp); rw [hs] at hid
              have hob := I.obj id; rw [hid] at hob
              have e0 := RepC.own_hd h1 hid rfl
              have e2 := imm_int h2
              obtain ⟨b, off, cap, es, e1, hb, hr, hcl⟩ := RepT.elem hob.2 y2
              rw [e1] at e0
              refine ⟨_, ?_, b, _, es, rfl, hb, hr, hcl⟩
              have hlt : j < ((List.length xs : Nat) : Int) := by omega
              simp [execOp, ho, e0, e2, run_indexAt' hu hsz y0 hlt, Addr.add_none, hez]
            · cases h
          · rename_i v e xs i1 x1 off1 id1 ver1 hs
            split at h
            · rename_i hez
              obtain ⟨rfl, hez⟩ := hez
              split at h
              · rename_i hb0
                have hb : 0 ≤ j ∧ j < ((List.length xs : Nat) : Int) := hb0
                refine ⟨_, h, good_two hc hx hd hi fun {a w N s' hd F} hm I h1 h2 => ?_⟩
                have hid := hm id (by simp); rw [hs] at hid
                have hob := I.obj id; rw [hid] at hob
                have e1 := RepC.own_hd h1 hid rfl
                have e2 := imm_int h2
                obtain ⟨_, _, _, _, _, _, ⟨g, cap, q1'⟩, _⟩ := hob
                rw [q1'] at e1
                refine ⟨.pointer (some ⟨g, j.toNat * szP E.P te, none⟩), by simp [execOp, ho, e1, e2, run_indexAt' hu hsz hb.1 hb.2, Addr.add_none], ?_, rfl, fun z1 z2 => ⟨g, _, _, q1', ?_⟩⟩
                · rw [hid]; exact Nat.le_refl _
                · rw [hid]
                  show _ = Value.pointer (some ⟨g, j.toNat * e.sz + 0, none⟩)
                  rw [hez]; rfl
              · cases h
            · cases h
          · cases h
        · rename_i id ver lo u
          split at h
          · rename_i v e xs hs
            split at h
            · rename_i hez
              obtain ⟨rfl, hez⟩ := hez
              split at h
              · rename_i hb0
                have hb : 0 ≤ j ∧ j < ((u : Nat) : Int) - ((lo : Nat) : Int) := hb0
                refine ⟨_, h, good_two hc hx hd hi fun {a w N s' hd F} hm I h1 h2 => ?_⟩
                have hid := hm id (by simp); rw [hs] at hid
                have hob := I.obj id; rw [hid] at hob
                obtain ⟨e1, l1, l2⟩ := RepC.sub_hd h1 hid rfl
                have l2' : u ≤ List.length xs := l2
                have e2 := imm_int h2
                rcases hob with ⟨_, q1, q2, _⟩ | ⟨g, cap, c, T, es, Fs, q1, _, _, q4, _⟩
                · subst q2; simp at l2'; omega
                · have q1' : hd id = .slice (some ⟨g, 0, none⟩) (List.length xs) cap := by simpa using q1
                  rw [q1'] at e1
                  have e1' : a.eval x = .slice (some ⟨g, lo * e.sz, none⟩) (u - lo) (cap - lo) := by
                    rw [e1]
                    show subV _ e.sz lo u = _
                    have hne : cap ≠ lo := by omega
                    simp [subV, hne, Addr.add_none]
                  have hlt : j < ((u - lo : Nat) : Int) := by omega
                  refine ⟨.pointer (some ⟨g, lo * e.sz + j.toNat * szP E.P te, none⟩), by simp [execOp, ho, e1', e2, run_indexAt' hu hsz hb.1 hlt, Addr.add_none], ?_, rfl, fun z1 z2 => ⟨g, _, _, q1', ?_⟩⟩
                  · rw [hid]; exact Nat.le_refl _
                  · rw [hid]
                    show _ = Value.pointer (some ⟨g, (lo + j.toNat) * e.sz + 0, none⟩)
                    rw [hez, Nat.add_mul]; rfl
              · cases h
            · cases h
          · cases h
        · cases h
  · cases h

theorem flatten_ones (xs : List Int) : (xs.map fun n => [Value.int .u8 n]).flatten = xs.map (Value.int .u8) := by
  induction xs with
  | nil => rfl
  | cons n xs ih => simp [ih]

theorem loadCells_ints {m : Mem} {N : Nat → Prop} {xs : List Int} {v : Value} (h : RepT m N (.sl (.int .u8)) xs [v] []) (hne : xs ≠ []) : ∃ b off cap, v = .slice (some ⟨b, off, none⟩) xs.length cap ∧ cellsIn m b off (xs.map (Value.int .u8)) := by
  obtain ⟨_, a, cap, es, e1, hcap, hl, hr, hm⟩ := h
  obtain ⟨b, off, rfl, hb, hc⟩ := hm hne
  refine ⟨b, off, cap, by simpa using e1, ?_⟩
  have : es.flatten = xs.map (Value.int .u8) := by
    have he : es = xs.map fun n => [Value.int .u8 n] := by
      apply List.ext_getElem
      · rw [List.length_map]; exact hl
      · intro i h1 h2
        have hi : i < List.length xs := by rw [← hl]; exact h1
        have := (hr i hi h1).1
        rw [this]
        simp
    rw [he]
    exact flatten_ones xs
  rwa [this] at hc

theorem good_convert {src dst : TypeId} {x : Operand} (ho : o.op = .convert src dst x) (h : exOp E O o st K = some r) : ∃ e, K e = some r ∧ Good E X o st e := by
  have hx : x ∈ o.op.operands := by rw [ho]; simp [Op.operands]
  simp only [exOp, ho] at h
  replace h := one_some h
  obtain ⟨c, hc, h⟩ := h
  obtain ⟨c0, hc0⟩ : ∃ c0, c0 = c := ⟨c, rfl⟩
  rw [← hc0] at hc
  split at h
  · rename_i d k k' n hs hd
    subst hc0
    refine ⟨_, h, good_one hc hx fun {a w N s' hd' F} hm I hv => ⟨.int k (k.wrap n), ?_, rfl, rfl⟩⟩
    have e1 := imm_int hv
    have hk : E.P.intKind dst = k := by simp [Program.intKind, hd]
    have := run_convert_int (P := E.P) w src dst k' n (by rw [hs]; rfl) (by rw [hk]; exact hd)
    rw [hk] at this
    simp [execOp, ho, e1, this]
  · rename_i d y hs hd
    subst hc0
    refine ⟨_, h, good_one hc hx fun {a w N s' hd' F} hm I hv => ⟨.string ⟨⟨y⟩⟩, ?_, rfl, rfl⟩⟩
    have e1 := imm_str hv
    simp [execOp, ho, e1, convert, run_underlying hs, run_underlying hd]
  · rename_i e hs hd _
    subst hc0
    split at h
    · rename_i he
      have key : ∀ {m : List Nat} {xs : List Int}, (∀ s' : Sto, (∀ i ∈ m, s' i = st.o i) → ∀ {mem : Mem} {N : Nat → Prop} {hd : Nat → Value} {F : Nat → List Nat} {size : Nat}, SInv mem N s' hd F size → ∀ v, RepC mem N s' hd c0 v →
          ∃ N', RepT mem N' (.sl (.int .u8)) xs [v] []) → Good E X o st { v := .one (.imm .str (bytesStr xs)), s := st.o, r := m } := by
        intro m xs hg
        refine good_one hc hx fun {a w N s' hd' F} hm I hv => ⟨.string ⟨⟨bytesStr xs⟩⟩, ?_, rfl, rfl⟩
        obtain ⟨N', hr⟩ := hg s' hm I _ hv
        by_cases hne : xs = []
        · subst hne
          obtain ⟨_, ad, cap, es, e1, _⟩ := hr
          have e1' : a.eval x = .slice ad 0 cap := by simpa using e1
          have hz : (loadCells (ad.getD ⟨0, 0, none⟩) 0).run E.P w = .ok #[] w := by
            have := run_loadCells_list (P := E.P) w (ad.getD ⟨0, 0, none⟩) [] (fun j v hj => by simp at hj)
            simpa using this
          cases ad with
          | none => 
            have := run_convert_bytes_nil (P := E.P) w src e hs he 0 cap dst hd
            simp [execOp, ho, e1', this, bytesStr]; rfl
          | some ad =>
            rw [show (execOp a.eval o) = (do pure (.value (← convert src dst (a.eval x)))) by simp [execOp, ho]]
            rw [e1', Sem.run_bind, run_convert_bytes_string w src dst e ad 0 cap hs he hd, run_bytesToString w ad 0 cap [] (by simpa using hz)]
            simp [bytesStr]; rfl
        · obtain ⟨b, off, cap, e1, hcl⟩ := loadCells_ints hr hne
          have := run_convert_bytes_arg (P := E.P) w src e hs he b off xs.length cap xs rfl (fun i hi => cell_of_in hcl i _ (by simp [List.getD, List.getElem?_eq_getElem hi])) dst hd
          simp [execOp, ho, e1, this, bytesStr, strOfNums]
      split at h
      · refine ⟨_, h, ?_⟩
        have := key (m := []) (xs := []) fun s' _ mem N hd F size I v hv => by
          obtain ⟨ad, rfl⟩ := hv
          exact ⟨N, rfl, ad, 0, [], rfl, Nat.le_refl _, rfl, fun i h => absurd h (by simp), fun h => absurd rfl h⟩
        exact this
      · obtain ⟨e', xs, m, h, hg⟩ := getSl_ok h
        split at h
        · refine ⟨_, h, key fun s' hm mem N hd F size I v hv => ?_⟩
          obtain ⟨N', h1, _⟩ := hg s' hm I v hv
          exact ⟨N', h1 rfl⟩
        · cases h
    · cases h
  · cases h
end

end Go.Proofs.YtndnhbihcnlpaaaDoorSt.Ev
