/- The evaluator is sound: code, calls, loops, every level. -/
import Derived.Test.YtofkhmedmeihiaaPnEvX
namespace Go.Proofs.YtofkhmedmeihiaaPn.Ev
open Go

def exOf : Ex → Exit
  | .normal => .normal
  | .exit i => .exit i

/-- A call's frame fits what the evaluator knows of its function. -/
structure Fit (E : Env) (f nt : Nat) (res : List ResultVar) (fn : Func) (us : List Value) (X : Ctx) : Prop where
  res : fn.results.toList = res
  nt : nt = X.nt
  io : X.io = ioTmps (E.io f) 0
  ok : ioOk (E.io f) (E.ps f) = true
  len : us.length = (E.io f).length
  av : ∀ j, X.av j = us.getD j undef

def LSound (E : Env) (n : Nat) (L : (f : Nat) → (h : LoopH) → Code → h.hτ.den → Option (h.oτ.den ⊕ E.Ret f)) : Prop :=
  ∀ (f : Nat) (h : LoopH) (c : Code) (x : h.hτ.den) (v : h.oτ.den ⊕ E.Ret f), L f h c x = some v → ∀ (fn : Func) (body : Code) (res : List ResultVar) (us : List Value) (X : Ctx), E.P.funcs[rl f]? = some fn → fn.body = some body → Fit E f fn.ntmps res fn us X →
    ∀ (Q : Exit → Act → World → Prop) a w, Inv X (stOf h.ht h.hτ x) a w → (∀ y, v = .inl y → ∀ a w, Inv X (stOf h.ot h.oτ y) a w → Q (.exit h.ex) a w) → (∀ y, v = .inr y → ∀ a w, RetAt E f fn us X y a w → Q .ret a w) →
      Code.rounds E.P c Q n a w

section
variable {E : Env} {O : Oracle E} {X : Ctx}

theorem ev_ok (hC : CSound E O.C) {n : Nat} (hL : LSound E n O.L) (hm : E.P.follows .mixedOrders = true) {f nt : Nat} {res : List ResultVar} {fn : Func} {body : Code} {us : List Value} (hfn : E.P.funcs[rl f]? = some fn) (hbody : fn.body = some body) (hntm : nt = fn.ntmps) (hfit : Fit E f nt res fn us X) :
    ∀ (c : Code) (p : Nat) (R : Type) (K : Ex → St → Option R) (KR : E.Ret f → Option R) (st : St) (r : R), ev E O ⟨f, nt, res⟩ c p R K KR st = some r → ∀ (Q : Exit → Act → World → Prop) a w, Inv X st a w →
      (∀ e st', K e st' = some r → ∀ a w, Inv X st' a w → Q (exOf e) a w) → (∀ y, KR y = some r → ∀ a w, RetAt E f fn us X y a w → Q .ret a w) → c.wp E.P Q a w := by
  intro c
  induction c with
  | skip => intro p R K KR st r h Q a w I hK hR; exact wp_skip (hK .normal st h a w I)
  | region id ops draw =>
    intro p R K KR st r h Q a w I hK hR
    simp only [ev] at h
    rw [← hfit.io, hfit.nt] at h
    obtain ⟨st', h1, h2⟩ := region_ok (X := X) (id := id) hC hm h
    exact h2 Q a w I (fun a w I' => hK .normal st' h1 a w I')
  | seq x y ihx ihy =>
    intro p R K KR st r h Q a w I hK hR
    simp only [ev] at h
    split at h
    · rename_i ts τ exits hh
      split at h
      · obtain ⟨v, hv, h⟩ := Option.bind_eq_some_iff.1 h
        cases v with
        | inl x =>
          refine wp_seq (ihx _ _ _ _ st _ hv _ a w I (fun e st' hk a w I' => ?_) (fun y hy a w hr => ?_))
          · cases e with
            | normal =>
              obtain ⟨x', hx', e⟩ := Option.map_eq_some_iff.1 hk
              injection e with e; subst e
              exact ihy _ _ _ _ _ _ h Q a w (cut_ok hx' I') hK hR
            | exit i =>
              obtain ⟨x', _, e⟩ := Option.map_eq_some_iff.1 hk
              cases e
          · obtain ⟨x', _, e⟩ := Option.map_eq_some_iff.1 hy
            cases e
        | inr r' =>
          obtain rfl := Option.some.inj h
          refine wp_seq (ihx _ _ _ _ st _ hv _ a w I (fun e st' hk a w I' => ?_) (fun y hy a w hr => ?_))
          · cases e with
            | normal =>
              obtain ⟨x', _, e⟩ := Option.map_eq_some_iff.1 hk
              cases e
            | exit i =>
              obtain ⟨x', hx', e⟩ := Option.map_eq_some_iff.1 hk
              injection e with e; subst e
              exact hK (.exit i) st' hx' a w I'
          · obtain ⟨x', hx', e⟩ := Option.map_eq_some_iff.1 hy
            injection e with e; subst e
            exact hR y hx' a w hr
      · obtain ⟨v, hv, h⟩ := Option.bind_eq_some_iff.1 h
        refine wp_seq (ihx _ _ _ _ st _ hv _ a w I (fun e st' hk a w I' => ?_) (fun y hy a w hr => ?_))
        · cases e with
          | normal => exact ihy _ _ _ _ _ _ h Q a w (cut_ok hk I') hK hR
          | exit i => cases hk
        · cases hy
    · refine wp_seq (ihx _ _ _ _ st _ h _ a w I (fun e st' hk a w I' => ?_) (fun y hy a w hr => hR y hy a w hr))
      cases e with
      | normal => exact ihy _ _ _ _ _ _ hk Q a w I' hK hR
      | exit i => exact hK (.exit i) st' hk a w I'
  | cond c x y ihx ihy =>
    intro p R K KR st r h Q a w I hK hR
    simp only [ev] at h
    split at h
    · rename_i t ht
      have hc : a.eval c = .bool t := by
        obtain ⟨N, hd, F, I⟩ := I
        have := I.eval c
        rw [ht] at this
        exact imm_bool (m := memOf w) (N := N) (s := st.o) (hd := hd) this
      refine wp_cond hc ?_
      split at h
      · rename_i hb
        have hb' : t = true := hb
        rw [if_pos hb']
        exact ihx _ _ _ _ _ _ h Q a w I hK hR
      · rename_i hb
        have hb' : ¬ (t = true) := hb
        rw [if_neg hb']
        exact ihy _ _ _ _ _ _ h Q a w I hK hR
    · cases h
  | block id x ih =>
    intro p R K KR st r h Q a w I hK hR
    simp only [ev] at h
    refine wp_block (ih _ _ _ _ st _ h _ a w I (fun e st' hk a w I' => ?_) (fun y hy a w hr => hR y hy a w hr))
    cases e with
    | normal => exact hK .normal st' hk a w I'
    | exit i =>
      show Exit.inBlock id Q (.exit i) a w
      simp only [Exit.inBlock]
      simp only at hk
      split at hk
      · rename_i hi
        rw [if_pos hi]; exact hK .normal st' hk a w I'
      · rename_i hi
        rw [if_neg hi]; exact hK (.exit i) st' hk a w I'
  | loop x ih =>
    intro p R K KR st r h Q a w I hK hR
    simp only [ev] at h
    split at h
    · rename_i lh _
      split at h
      · cases h
      · rename_i x' hx'
        obtain ⟨v, hv, h⟩ := Option.bind_eq_some_iff.1 h
        refine wp_loop_rounds n (hL f lh x x' v hv fn body res us X hfn hbody (hntm ▸ hfit) Q a w (cut_ok hx' I) (fun y hy a w I' => ?_) (fun y hy a w hr => ?_))
        · subst hy
          exact hK (.exit lh.ex) _ h a w I'
        · subst hy
          exact hR y h a w hr
    · cases h
  | exit id => intro p R K KR st r h Q a w I hK hR; exact wp_exit (hK (.exit id) st h a w I)
  | ret =>
    intro p R K KR st r h Q a w I hK hR
    simp only [ev] at h
    obtain ⟨y, hy, h⟩ := Option.bind_eq_some_iff.1 h
    exact wp_ret (hR y h a w (prRet_ok hy hfit.res hfit.io hfit.ok hfit.len hfit.av I))
  | _ => intro p R K KR st r h; simp only [ev] at h; cases h

/-- What the outside functions are told to do, they do. -/
def ExtSound (E : Env) : Prop :=
  CloneSound E ∧ ∀ (f : Nat) (g : (E.ps f).den → Option (E.Ret f)), E.ext f = some g → ∀ (x : (E.ps f).den) (yz : E.Ret f), g x = some yz → ∀ (w : World) (N : Nat → Prop) (us : List Value) (G : List Nat), RepAs (memOf w) N (E.ps f) x us G → G.Nodup → (∀ k ∈ G, k < w.heap.size ∧ ¬ N k) → (∀ k, N k → k < w.heap.size) →
    Calls E.P (rl f) us.toArray w (Post fun v w' => ∃ N' rs G1 G2, Done E f yz.1 yz.2 us G N w v w' N' rs G1 G2)

theorem fnOf_some {f : Nat} {F : Fn E} {c : Code} (h : fnOf E f = some (F, c)) : ∃ fn res, E.P.funcs[rl f]? = some fn ∧ fn.body = some c ∧ fn.results.toList = res ∧ F = ⟨f, fn.ntmps, res⟩ := by
  unfold fnOf at h
  split at h
  · rename_i fn hfn
    split at h
    · rename_i c' hb
      simp only [Option.some.injEq, Prod.mk.injEq] at h
      obtain ⟨rfl, rfl⟩ := h
      exact ⟨fn, _, hfn, hb, rfl, rfl⟩
    · cases h
  · cases h

theorem evFn_ok (hX : ExtSound E) (hC : CSound E O.C) {n : Nat} (hL : LSound E n O.L) (hm : E.P.follows .mixedOrders = true) : CSound E (evFn E O) := by
  refine ⟨hC.1, fun f x yz h w N us G hus hnd hG hN => ?_⟩
  unfold evFn at h
  split at h
  · rename_i g hg
    exact hX.2 f g hg x yz h w N us G hus hnd hG hN
  · split at h
    · rename_i F c hF
      obtain ⟨fn, res, hfn, hb, hr, rfl⟩ := fnOf_some hF
      split at h
      · rename_i hcond
        obtain ⟨_, hio, hnt⟩ := hcond
        have hnt' : nFs (E.ps f) ≤ fn.ntmps := hnt
        have hlen := hus.length
        have hiol := ioOk_len hio
        let X : Ctx := { w0 := w, N0 := N, F0 := G, nt := fn.ntmps, io := ioTmps (E.io f) 0, av := fun j => us.getD j undef }
        have hfit : Fit E f fn.ntmps res fn us X := ⟨hr, rfl, rfl, hio, by omega, fun _ => rfl⟩
        have I := (enter_ok (f := f) hus hnd hG hN (nt := fn.ntmps) (by omega)).resolve_right (fun hn => hn fun j hj => by
          have := (ioTmps_le (E.io f) 0 j hj).2; omega)
        refine calls_of_wp hfn hb (ev_ok (X := X) hC hL hm hfn hb rfl hfit c 1 (E.Ret f) _ _ _ yz h _ _ w I (fun e st' hk a w' I' => ?_) (fun y hy a w' hret => ?_))
        · cases e with
          | normal =>
            obtain ⟨y, hy, hk⟩ := Option.bind_eq_some_iff.1 hk
            have hk' : y = yz := Option.some.inj hk
            subst hk'
            exact prRet_ok hy hfit.res hfit.io hfit.ok hfit.len hfit.av I'
          | exit i => cases hk
        · have hy' : y = yz := Option.some.inj hy
          subst hy'
          exact hret
      · cases h
    · cases h

theorem evLoop_ok (hC : CSound E O.C) {n : Nat} (hL : LSound E n O.L) (hm : E.P.follows .mixedOrders = true) : LSound E (n + 1) (evLoop E O) := by
  intro f h c x v hv fn body res us X hfn hb hfit Q a w I hQ1 hQ2
  unfold evLoop at hv
  split at hv
  · rename_i F c' hF
    obtain ⟨fn', res', hfn', hb', hr', rfl⟩ := fnOf_some hF
    rw [hfn] at hfn'
    obtain rfl := Option.some.inj hfn'
    have hres : res' = res := by have := hfit.res; rw [hr'] at this; exact this
    subst hres
    split at hv
    · rename_i he
      rw [rounds_succ]
      refine ev_ok (X := X) hC hL hm hfn hb rfl hfit c h.key _ _ _ _ v hv _ a w I (fun e st' hk a w' I' => ?_) (fun y hy a w' hret => ?_)
      · cases e with
        | normal =>
          obtain ⟨x', hx', hk⟩ := Option.bind_eq_some_iff.1 hk
          exact hL f h c x' v hk fn body res' us X hfn hb hfit Q a w' (cut_ok hx' I') hQ1 hQ2
        | exit i =>
          simp only at hk
          split at hk
          · rename_i hi
            obtain ⟨y, hy, hk⟩ := Option.bind_eq_some_iff.1 hk
            have hk' := Option.some.inj hk
            subst hi
            exact hQ1 y hk'.symm a w' (cut_ok hy I')
          · cases hk
      · have hy' := Option.some.inj hy
        exact hQ2 y hy'.symm a w' hret
    · cases hv
  · cases hv

/-- Every level is sound. -/
theorem On_ok (hX : ExtSound E) (hm : E.P.follows .mixedOrders = true) : ∀ n, CSound E (On E n).C ∧ LSound E n (On E n).L
  | 0 => ⟨⟨hX.1, fun _ _ _ h => (by cases h)⟩, fun _ _ _ _ _ h => (by cases h)⟩
  | n + 1 => by
    obtain ⟨h1, h2⟩ := On_ok hX hm n
    exact ⟨evFn_ok hX h1 h2 hm, evLoop_ok h1 h2 hm⟩
end

end Go.Proofs.YtofkhmedmeihiaaPn.Ev
