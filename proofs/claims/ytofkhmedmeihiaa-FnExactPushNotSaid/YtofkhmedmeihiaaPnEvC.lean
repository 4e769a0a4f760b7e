/- The evaluator: what data in memory stand for; what a change of memory leaves as it is. -/
import Derived.Test.YtofkhmedmeihiaaPnEvB
import Derived.Laws.AppendOwn
namespace Go.Proofs.YtofkhmedmeihiaaPn.Ev
open Go

abbrev Mem := Nat → Option Go.Obj
def memOf (w : World) : Mem := fun k => w.heap[k]?

/-- Some cells in a row, in a block from a place on. -/
def cellsIn (m : Mem) (b off : Nat) (cs : List Value) : Prop :=
  ∃ c T fr, m b = some (.cells c T fr) ∧ ∀ (j : Nat) (v : Value), cs[j]? = some v → c[off + j]? = some v

theorem cellsIn.mono {m m' : Mem} {b off : Nat} {cs : List Value} (h : cellsIn m b off cs) (e : m' b = m b) : cellsIn m' b off cs := by
  obtain ⟨c, T, fr, h1, h2⟩ := h
  exact ⟨c, T, fr, by rw [e, h1], h2⟩

theorem cellsIn.sub {m : Mem} {b off : Nat} {cs : List Value} (h : cellsIn m b off cs) (k n : Nat) : cellsIn m b (off + k) ((cs.drop k).take n) := by
  obtain ⟨c, T, fr, h1, h2⟩ := h
  refine ⟨c, T, fr, h1, fun j v hj => ?_⟩
  rw [List.getElem?_take] at hj
  split at hj
  · rw [List.getElem?_drop] at hj
    rw [Nat.add_assoc]; exact h2 _ _ hj
  · cases hj

theorem cellsIn.drop {m : Mem} {b off : Nat} {cs : List Value} (h : cellsIn m b off cs) (k : Nat) : cellsIn m b (off + k) (cs.drop k) := by
  obtain ⟨c, T, fr, h1, h2⟩ := h
  refine ⟨c, T, fr, h1, fun j v hj => ?_⟩
  rw [List.getElem?_drop] at hj
  rw [Nat.add_assoc]; exact h2 _ _ hj

/-- A slice of whole numbers that is read. -/
def RepInts (m : Mem) (N : Nat → Prop) (l : List Int) (v : Value) : Prop :=
  ∃ a cap, v = .slice a l.length cap ∧ l.length ≤ cap ∧ (l ≠ [] → ∃ b off, a = some ⟨b, off, none⟩ ∧ N b ∧ cellsIn m b off (l.map (Value.int .i64)))

inductive RepTree (m : Mem) (N : Nat → Prop) : Tree → Value → Prop
  | nil : RepTree m N .nil (.pointer none)
  | mk (op v : Int) (l r : List Int) (kids : List Tree) (b off : Nat) (lv rv : Value) (a : Option Addr) (cap : Nat) (kvs : List Value)
    (hb : N b) (hc : cellsIn m b off [.int .i64 op, .int .i64 v, lv, rv, .slice a kids.length cap])
    (hl : RepInts m N l lv) (hr : RepInts m N r rv) (hcap : kids.length ≤ cap) (hlen : kvs.length = kids.length)
    (hk : ∀ (i : Nat) (h : i < kids.length) (h' : i < kvs.length), RepTree m N kids[i] kvs[i])
    (hm : kids ≠ [] → ∃ b off, a = some ⟨b, off, none⟩ ∧ N b ∧ cellsIn m b off kvs) :
    RepTree m N (.mk op v l r kids) (.pointer (some ⟨b, off, none⟩))

/-- Cells stand for data; 'F' are the blocks that are owned. -/
def RepT (m : Mem) (N : Nat → Prop) : (τ : Ty) → τ.den → List Value → List Nat → Prop
  | .bool, x, cs, F => cs = [.bool x] ∧ F = []
  | .int k, x, cs, F => cs = [.int k x] ∧ F = []
  | .str, x, cs, F => cs = [.string ⟨⟨x⟩⟩] ∧ F = []
  | .sl e, xs, cs, F => F = [] ∧ ∃ (a : Option Addr) (cap : Nat) (es : List (List Value)), cs = [.slice a (List.length xs) cap] ∧ List.length xs ≤ cap ∧ es.length = List.length xs ∧
      (∀ (i : Nat) (h : i < List.length xs) (h' : i < es.length), RepT m N e (xs[i]'h) es[i] []) ∧
      (xs ≠ [] → ∃ b off, a = some ⟨b, off, none⟩ ∧ N b ∧ cellsIn m b off es.flatten)
  | .own e, xs, cs, F => (∃ a, cs = [.slice a 0 0] ∧ xs = [] ∧ F = []) ∨
      ∃ (g cap : Nat) (c : Array Value) (T : TypeId) (es : List (List Value)) (Fs : List (List Nat)), cs = [.slice (some ⟨g, 0, none⟩) (List.length xs) cap] ∧ m g = some (.cells c T (0, 0)) ∧
        c.size = cap * e.sz ∧ List.length xs ≤ cap ∧ cap ≤ maxLen ∧ es.length = List.length xs ∧ Fs.length = List.length xs ∧
        (∀ (i : Nat) (h : i < List.length xs) (h' : i < es.length) (h'' : i < Fs.length), RepT m N e (xs[i]'h) es[i] Fs[i]) ∧
        c.toList.take es.flatten.length = es.flatten ∧ F = g :: Fs.flatten
  | .agg fs, x, cs, F => RepT m N fs x cs F
  | .nil, _, cs, F => cs = [] ∧ F = []
  | .cons a r, x, cs, F => ∃ c1 c2 F1 F2, cs = c1 ++ c2 ∧ F = F1 ++ F2 ∧ RepT m N a x.1 c1 F1 ∧ RepT m N r x.2 c2 F2
  | .ptr e, x, cs, F => F = [] ∧ ∃ b off es, cs = [.pointer (some ⟨b, off, none⟩)] ∧ N b ∧ RepT m N e x es [] ∧ cellsIn m b off es
  | .box e, x, cs, F => ∃ g es T F', cs = [.pointer (some ⟨g, 0, none⟩)] ∧ m g = some (.cells es.toArray T (0, 0)) ∧ RepT m N e x es F' ∧ F = g :: F'
  | .fn f caps, x, cs, F => F = [] ∧ ∃ es, cs = [.func (.func f) #[] es.toArray] ∧ RepT m N caps x es []
  | .tree, x, cs, F => F = [] ∧ ∃ v, cs = [v] ∧ RepTree m N x v
  | .unk, _, cs, F => F = [] ∧ ∃ v, cs = [v] ∧ v.oneCell' = true
  | .map e, xs, cs, F => ∃ g es clock, cs = [.map (some g)] ∧ m g = some (.map es clock) ∧ es.size = List.length xs ∧ (∀ (i : Nat) (h : i < List.length xs) (h' : i < es.size), es[i].key = .int .i64 (xs[i]'h).1 ∧ RepT m N e (xs[i]'h).2 [es[i].val] []) ∧ F = [g]

theorem RepT.len {m : Mem} {N : Nat → Prop} : ∀ {τ : Ty} {x : τ.den} {cs : List Value} {F : List Nat}, RepT m N τ x cs F → cs.length = τ.sz
  | .bool, _, _, _, h | .int _, _, _, _, h | .str, _, _, _, h | .nil, _, _, _, h => by rw [h.1]; rfl
  | .sl _, _, _, _, ⟨_, _, _, _, h, _⟩ => by rw [h]; rfl
  | .own _, _, _, _, h => by
    rcases h with ⟨_, h, _⟩ | ⟨_, _, _, _, _, _, h, _⟩ <;> rw [h] <;> rfl
  | .agg fs, _, _, _, h => RepT.len (τ := fs) h
  | .cons _ _, _, _, _, ⟨c1, c2, _, _, h, _, h1, h2⟩ => by rw [h, List.length_append, RepT.len h1, RepT.len h2]; rfl
  | .ptr _, _, _, _, ⟨_, _, _, _, h, _⟩ => by rw [h]; rfl
  | .box _, _, _, _, ⟨_, _, _, _, h, _⟩ => by rw [h]; rfl
  | .fn _ _, _, _, _, ⟨_, _, h, _⟩ => by rw [h]; rfl
  | .tree, _, _, _, ⟨_, _, h, _⟩ => by rw [h]; rfl
  | .unk, _, _, _, ⟨_, _, h, _⟩ => by rw [h]; rfl
  | .map _, _, _, _, ⟨_, _, _, h, _⟩ => by rw [h]; rfl

theorem RepT.one' {m : Mem} {N : Nat → Prop} : ∀ {τ : Ty} {x : τ.den} {cs : List Value} {F : List Nat}, RepT m N τ x cs F → ∀ v ∈ cs, v.oneCell' = true
  | .bool, _, _, _, h, v, hv | .int _, _, _, _, h, v, hv | .str, _, _, _, h, v, hv => by rw [h.1] at hv; simp at hv; subst hv; rfl
  | .nil, _, _, _, h, v, hv => by rw [h.1] at hv; simp at hv
  | .sl _, _, _, _, ⟨_, _, _, _, h, _⟩, v, hv => by rw [h] at hv; simp at hv; subst hv; rfl
  | .own _, _, _, _, h, v, hv => by
    rcases h with ⟨_, h, _⟩ | ⟨_, _, _, _, _, _, h, _⟩ <;> (rw [h] at hv; simp at hv; subst hv; rfl)
  | .agg fs, _, _, _, h, v, hv => RepT.one' (τ := fs) h v hv
  | .cons _ _, _, _, _, ⟨c1, c2, _, _, h, _, h1, h2⟩, v, hv => by
    rw [h] at hv
    rcases List.mem_append.1 hv with hv | hv
    · exact RepT.one' h1 v hv
    · exact RepT.one' h2 v hv
  | .ptr _, _, _, _, ⟨_, _, _, _, h, _⟩, v, hv => by rw [h] at hv; simp at hv; subst hv; rfl
  | .box _, _, _, _, ⟨_, _, _, _, h, _⟩, v, hv => by rw [h] at hv; simp at hv; subst hv; rfl
  | .fn _ _, _, _, _, ⟨_, _, h, _⟩, v, hv => by rw [h] at hv; simp at hv; subst hv; rfl
  | .tree, _, _, _, ⟨_, u, h, ht⟩, v, hv => by
    rw [h] at hv; simp at hv; subst hv
    cases ht <;> rfl
  | .unk, _, _, _, ⟨_, u, h, ht⟩, v, hv => by rw [h] at hv; simp at hv; subst hv; exact ht
  | .map _, _, _, _, ⟨_, _, _, h, _⟩, v, hv => by rw [h] at hv; simp at hv; subst hv; rfl

theorem RepInts.mono {m m' : Mem} {N N' : Nat → Prop} (hN : ∀ b, N b → N' b ∧ m' b = m b) {l : List Int} {v : Value} (h : RepInts m N l v) : RepInts m' N' l v := by
  obtain ⟨a, cap, h1, h2, h3⟩ := h
  refine ⟨a, cap, h1, h2, fun hn => ?_⟩
  obtain ⟨b, off, e, hb, hc⟩ := h3 hn
  exact ⟨b, off, e, (hN b hb).1, hc.mono (hN b hb).2⟩

theorem RepTree.mono {m m' : Mem} {N N' : Nat → Prop} (hN : ∀ b, N b → N' b ∧ m' b = m b) {t : Tree} {v : Value} (h : RepTree m N t v) : RepTree m' N' t v := by
  induction h with
  | nil => exact .nil
  | mk op v l r kids b off lv rv a cap kvs hb hc hl hr hcap hlen hk hm ih =>
    refine .mk op v l r kids b off lv rv a cap kvs (hN b hb).1 (hc.mono (hN b hb).2) (hl.mono hN) (hr.mono hN) hcap hlen (fun i h h' => ih i h h') (fun hn => ?_)
    obtain ⟨b', off', e, hb', hc'⟩ := hm hn
    exact ⟨b', off', e, (hN b' hb').1, hc'.mono (hN b' hb').2⟩

theorem RepT.mono {m m' : Mem} {N N' : Nat → Prop} (hN : ∀ b, N b → N' b ∧ m' b = m b) : ∀ {τ : Ty} {x : τ.den} {cs : List Value} {F : List Nat}, (∀ g ∈ F, m' g = m g) → RepT m N τ x cs F → RepT m' N' τ x cs F
  | .bool, _, _, _, _, h | .int _, _, _, _, _, h | .str, _, _, _, _, h | .nil, _, _, _, _, h => h
  | .sl e, xs, _, _, _, ⟨h0, a, cap, es, h1, h2, h3, h4, h5⟩ => by
    refine ⟨h0, a, cap, es, h1, h2, h3, fun i hi hi' => RepT.mono hN (by simp) (h4 i hi hi'), fun hn => ?_⟩
    obtain ⟨b, off, e, hb, hc⟩ := h5 hn
    exact ⟨b, off, e, (hN b hb).1, hc.mono (hN b hb).2⟩
  | .own e, xs, _, _, hF, h => by
    rcases h with h | ⟨g, cap, c, T, es, Fs, h1, h2, h3, h4, h5, h6, h7, h8, h9, rfl⟩
    · exact .inl h
    · refine .inr ⟨g, cap, c, T, es, Fs, h1, by rw [hF g (by simp), h2], h3, h4, h5, h6, h7, fun i hi hi' hi'' => RepT.mono hN (fun k hk => hF k ?_) (h8 i hi hi' hi''), h9, rfl⟩
      exact List.mem_cons_of_mem _ (List.mem_flatten.2 ⟨_, List.getElem_mem hi'', hk⟩)
  | .agg fs, _, _, _, hF, h => RepT.mono (τ := fs) hN hF h
  | .cons a r, _, _, _, hF, ⟨c1, c2, F1, F2, h1, h2, h3, h4⟩ => by
    subst h2
    exact ⟨c1, c2, F1, F2, h1, rfl, RepT.mono hN (fun g hg => hF g (List.mem_append_left _ hg)) h3, RepT.mono hN (fun g hg => hF g (List.mem_append_right _ hg)) h4⟩
  | .ptr e, _, _, _, _, ⟨h0, b, off, es, h1, h2, h3, h4⟩ => ⟨h0, b, off, es, h1, (hN b h2).1, RepT.mono hN (by simp) h3, h4.mono (hN b h2).2⟩
  | .box e, _, _, _, hF, ⟨g, es, T, F', h1, h2, h3, h4⟩ => by
    subst h4
    exact ⟨g, es, T, F', h1, by rw [hF g (by simp), h2], RepT.mono hN (fun k hk => hF k (List.mem_cons_of_mem _ hk)) h3, rfl⟩
  | .fn f caps, _, _, _, _, ⟨h0, es, h1, h2⟩ => ⟨h0, es, h1, RepT.mono hN (by simp) h2⟩
  | .tree, _, _, _, _, ⟨h0, v, h1, h2⟩ => ⟨h0, v, h1, h2.mono hN⟩
  | .unk, _, _, _, _, h => h
  | .map e, _, _, _, hF, ⟨g, es, clock, h1, h2, h3, h4, h5⟩ => by
    subst h5
    exact ⟨g, es, clock, h1, by rw [hF g (by simp), h2], h3, fun i h h' => ⟨(h4 i h h').1, RepT.mono hN (by simp) (h4 i h h').2⟩, rfl⟩

theorem RepT.imm {m : Mem} {N : Nat → Prop} : ∀ {τ : Ty} {x : τ.den} {cs : List Value} {F : List Nat}, τ.isImm = true → RepT m N τ x cs F → F = []
  | .bool, _, _, _, _, h | .int _, _, _, _, _, h | .str, _, _, _, _, h | .nil, _, _, _, _, h => h.2
  | .sl e, xs, _, _, _, ⟨h0, _⟩ => h0
  | .own e, xs, _, _, hF, h => by simp [Ty.isImm] at hF
  | .agg fs, _, _, _, hF, h => RepT.imm (τ := fs) hF h
  | .cons a r, _, _, _, hF, ⟨c1, c2, F1, F2, h1, h2, h3, h4⟩ => by
    simp only [Ty.isImm, Bool.and_eq_true] at hF
    rw [h2, RepT.imm hF.1 h3, RepT.imm hF.2 h4]; rfl
  | .ptr e, _, _, _, _, ⟨h0, _⟩ => h0
  | .box e, _, _, _, hF, h => by simp [Ty.isImm] at hF
  | .fn f caps, _, _, _, _, ⟨h0, _⟩ => h0
  | .tree, _, _, _, _, ⟨h0, _⟩ => h0
  | .unk, _, _, _, _, ⟨h0, _⟩ => h0
  | .map _, _, _, _, hF, _ => by simp [Ty.isImm] at hF

/-! ### Cells of temporaries and objects -/
/-- A sub-slice's value out of the whole one's. -/
def subV (hd : Value) (sz lo hi : Nat) : Value := match hd with
  | .slice a _ cap => .slice (if cap = lo then a else a.map (·.add (lo * sz))) (hi - lo) (cap - lo)
  | v => v
def Obj.esz : Obj → Nat
  | .vec e _ | .fvec e _ | .lvec e _ | .ovec e _ => e.sz
  | .hvec e _ _ _ _ _ _ => e.sz
  | _ => 0
def Obj.vlen : Obj → Nat
  | .vec _ xs | .fvec _ xs | .lvec _ xs | .ovec _ xs => List.length xs
  | .hvec _ xs _ _ _ _ _ => List.length xs
  | _ => 0

/-- A row of which a part is out: whatever stands in the part's place, the row is whole again. -/
def Wand (m : Mem) (N : Nat → Prop) (e : Ty) (xs : List e.den) (i off : Nat) (x : e.den) (h v0 : Value) (Fa Fb : List Nat) : Prop :=
  ∀ (m' : Mem) (N' : Nat → Prop), (∀ b, N b → N' b ∧ m' b = m b) → (∀ k ∈ Fa ++ Fb, m' k = m k) → ∀ (σ : Ty) (ys : List σ.den) (G : List Nat) (x' : e.den),
    RepT m' N' (.own σ) ys [v0] G → setAt e x off σ ys = some x' → RepT m' N' (.own e) (xs.set i x') [h] (Fa ++ (G ++ Fb))
theorem Wand.mono {m m' : Mem} {N N' : Nat → Prop} (hN : ∀ b, N b → N' b ∧ m' b = m b) {e : Ty} {xs : List e.den} {i off : Nat} {x : e.den} {h v0 : Value} {Fa Fb : List Nat} (hF : ∀ k ∈ Fa ++ Fb, m' k = m k) (hw : Wand m N e xs i off x h v0 Fa Fb) : Wand m' N' e xs i off x h v0 Fa Fb :=
  fun m2 N2 hN2 hF2 σ ys G x' hr hx => hw m2 N2 (fun b hb => ⟨(hN2 b (hN b hb).1).1, (hN2 b (hN b hb).1).2.trans (hN b hb).2⟩) (fun k hk => (hF2 k hk).trans (hF k hk)) σ ys G x' hr hx

section
variable (m : Mem) (N : Nat → Prop) (s : Sto) (hd : Nat → Value)

def RepC : C → Value → Prop
  | .imm τ x, v => RepT m N τ x [v] []
  | .iptr τ x off, v => ∃ b o es, v = .pointer (some ⟨b, o + off, none⟩) ∧ N b ∧ RepT m N τ x es [] ∧ cellsIn m b o es
  | .e0, v => ∃ a, v = .slice a 0 0
  | .nilp, v => v = .pointer none
  | .own id ver, v => ver ≤ (s id).1 ∧ v.oneCell' = true ∧ ((s id).1 = ver → (s id).2.isV = true → v = hd id)
  | .sub id ver lo hi, v => ver ≤ (s id).1 ∧ v.oneCell' = true ∧ ((s id).1 = ver → (s id).2.isV = true → v = subV (hd id) (s id).2.esz lo hi ∧ lo ≤ hi ∧ hi ≤ (s id).2.vlen)
  | .bp id ver off, v => ver ≤ (s id).1 ∧ v.oneCell' = true ∧ ((s id).1 = ver → (s id).2.isB = true → ∃ g, hd id = .pointer (some ⟨g, 0, none⟩) ∧ v = .pointer (some ⟨g, off, none⟩))
  | .mp id ver, v => ver ≤ (s id).1 ∧ v.oneCell' = true ∧ ((s id).1 = ver → (s id).2.isB = true → v = hd id)
  | .ep id ver i off, v => ver ≤ (s id).1 ∧ v.oneCell' = true ∧ ((s id).1 = ver → (s id).2.isV = true → ∃ g len cap, hd id = .slice (some ⟨g, 0, none⟩) len cap ∧ v = .pointer (some ⟨g, i * (s id).2.esz + off, none⟩))

def RepCs : List C → List Value → Prop
  | [], [] => True
  | c :: cs, v :: vs => RepC m N s hd c v ∧ RepCs cs vs
  | _, _ => False

def RepP : Bool × List C → Value → Prop
  | (true, cs), v => ∃ vs, v = .agg ⟨vs⟩ ∧ RepCs m N s hd cs vs
  | (false, [c]), v => RepC m N s hd c v
  | _, _ => False

def RepPs : List (Bool × List C) → List Value → Prop
  | [], [] => True
  | p :: ps, v :: vs => RepP m N s hd p v ∧ RepPs ps vs
  | _, _ => False

def RepV : V → Value → Prop
  | .one c, v => RepC m N s hd c v
  | .agg cs, v => ∃ vs, v = .agg ⟨vs⟩ ∧ RepCs m N s hd cs vs
  | .tup ps, v => ∃ vs, v = .tuple ⟨vs⟩ ∧ RepPs m N s hd ps vs
  | .undef, _ => True

def ObjRep : Obj → Value → List Nat → Prop
  | .dead, _, F => F = []
  | .vec e xs, h, F | .lvec e xs, h, F => RepT m N (.own e) xs [h] F
  | .fvec e xs, h, F => F = [] ∧ RepT m N (.sl e) xs [h] []
  | .box cs, h, F => ∃ g vs T, h = .pointer (some ⟨g, 0, none⟩) ∧ m g = some (.cells ⟨vs⟩ T (0, 0)) ∧ RepCs m N s hd cs vs ∧ F = [g]
  | .fbox τ x, h, F => F = [] ∧ RepT m N (.ptr τ) x [h] [] ∧ ∃ g, h = .pointer (some ⟨g, 0, none⟩)
  | .ovec _ xs, h, F => F = [] ∧ ∃ a cap, h = .slice a (List.length xs) cap
  | .hvec e xs i x off id' ver', h, F => ∃ (v0 : Value) (Fa Fb : List Nat), xs[i]? = some x ∧ RepC m N s hd (.own id' ver') v0 ∧ F = Fa ++ Fb ∧ (∃ g cap, h = .slice (some ⟨g, 0, none⟩) (List.length xs) cap) ∧ Wand m N e xs i off x h v0 Fa Fb
  | .obox, h, F => F = [] ∧ ∃ g, h = .pointer (some ⟨g, 0, none⟩)
  | .mapo τ xs, h, F => RepT m N (.map τ) xs [h] F
  | .omap, h, F => F = [] ∧ ∃ g, h = .map (some g)
end

/-- All objects are what they are told to be; what is owned is owned once. -/
structure SInv (m : Mem) (N : Nat → Prop) (s : Sto) (hd : Nat → Value) (F : Nat → List Nat) (size : Nat) : Prop where
  obj : ∀ id, ObjRep m N s hd (s id).2 (hd id) (F id)
  once : ∀ i j k, k ∈ F i → k ∈ F j → i = j
  nodup : ∀ i, (F i).Nodup
  sep : ∀ i k, k ∈ F i → ¬ N k
  ltF : ∀ i k, k ∈ F i → k < size
  ltN : ∀ k, N k → k < size

/-- How one state of the objects goes on from another one, for cells that only look at them. -/
structure Goes (s s' : Sto) (hd hd' : Nat → Value) : Prop where
  ver : ∀ id, (s id).1 ≤ (s' id).1
  vec : ∀ id, (s' id).1 = (s id).1 → (s' id).2.isV = true → (s id).2.isV = true ∧ hd' id = hd id ∧ (s' id).2.esz = (s id).2.esz ∧ (s id).2.vlen ≤ (s' id).2.vlen
  box : ∀ id, (s' id).1 = (s id).1 → (s' id).2.isB = true → (s id).2.isB = true ∧ hd' id = hd id

theorem Goes.refl (s : Sto) (hd : Nat → Value) : Goes s s hd hd := ⟨fun _ => Nat.le_refl _, fun _ _ h => ⟨h, rfl, rfl, Nat.le_refl _⟩, fun _ _ h => ⟨h, rfl⟩⟩

theorem Goes.trans {s s' s'' : Sto} {hd hd' hd'' : Nat → Value} (h : Goes s s' hd hd') (h' : Goes s' s'' hd' hd'') : Goes s s'' hd hd'' := by
  refine ⟨fun id => Nat.le_trans (h.ver id) (h'.ver id), fun id e hv => ?_, fun id e hv => ?_⟩
  · have h1 := h.ver id; have h2 := h'.ver id
    obtain ⟨a1, a2, a3, a4⟩ := h'.vec id (by omega) hv
    obtain ⟨b1, b2, b3, b4⟩ := h.vec id (by omega) a1
    exact ⟨b1, a2.trans b2, a3.trans b3, Nat.le_trans b4 a4⟩
  · have h1 := h.ver id; have h2 := h'.ver id
    obtain ⟨a1, a2⟩ := h'.box id (by omega) hv
    obtain ⟨b1, b2⟩ := h.box id (by omega) a1
    exact ⟨b1, a2.trans b2⟩

theorem RepC.goes {m m' : Mem} {N N' : Nat → Prop} {s s' : Sto} {hd hd' : Nat → Value} (hN : ∀ b, N b → N' b ∧ m' b = m b) (g : Goes s s' hd hd') :
    ∀ {c : C} {v : Value}, RepC m N s hd c v → RepC m' N' s' hd' c v
  | .imm _ _, _, h => RepT.mono hN (by simp) h
  | .iptr _ _ _, _, ⟨b, o, es, h1, h2, h3, h4⟩ => ⟨b, o, es, h1, (hN b h2).1, RepT.mono hN (by simp) h3, h4.mono (hN b h2).2⟩
  | .e0, _, h | .nilp, _, h => h
  | .own id ver, _, ⟨h1, h0, h2⟩ => by
    have hv := g.ver id
    refine ⟨by omega, h0, fun e hv' => ?_⟩
    obtain ⟨a1, a2, _⟩ := g.vec id (by omega) hv'
    rw [a2]; exact h2 (by omega) a1
  | .sub id ver lo hi, _, ⟨h1, h0, h2⟩ => by
    have hv := g.ver id
    refine ⟨by omega, h0, fun e hv' => ?_⟩
    obtain ⟨a1, a2, a3, a4⟩ := g.vec id (by omega) hv'
    obtain ⟨b1, b2, b3⟩ := h2 (by omega) a1
    exact ⟨by rw [a2, a3]; exact b1, b2, Nat.le_trans b3 a4⟩
  | .bp id ver off, _, ⟨h1, h0, h2⟩ => by
    have hv := g.ver id
    refine ⟨by omega, h0, fun e hv' => ?_⟩
    obtain ⟨a1, a2⟩ := g.box id (by omega) hv'
    rw [a2]; exact h2 (by omega) a1
  | .mp id ver, _, ⟨h1, h0, h2⟩ => by
    have hv := g.ver id
    refine ⟨by omega, h0, fun e hv' => ?_⟩
    obtain ⟨a1, a2⟩ := g.box id (by omega) hv'
    rw [a2]; exact h2 (by omega) a1
  | .ep id ver i off, _, ⟨h1, h0, h2⟩ => by
    have hv := g.ver id
    refine ⟨by omega, h0, fun e hv' => ?_⟩
    obtain ⟨a1, a2, a3, _⟩ := g.vec id (by omega) hv'
    rw [a2, a3]; exact h2 (by omega) a1

section
variable {m m' : Mem} {N N' : Nat → Prop} {s s' : Sto} {hd hd' : Nat → Value} (hN : ∀ b, N b → N' b ∧ m' b = m b) (g : Goes s s' hd hd')
include hN g
theorem RepCs.goes : ∀ {cs : List C} {vs : List Value}, RepCs m N s hd cs vs → RepCs m' N' s' hd' cs vs
  | [], [], _ => trivial
  | _ :: _, _ :: _, ⟨h1, h2⟩ => ⟨RepC.goes hN g h1, RepCs.goes h2⟩
theorem RepP.goes : ∀ {p : Bool × List C} {v : Value}, RepP m N s hd p v → RepP m' N' s' hd' p v
  | (true, _), _, ⟨vs, h1, h2⟩ => ⟨vs, h1, RepCs.goes hN g h2⟩
  | (false, [_]), _, h => RepC.goes (c := _) hN g h
theorem RepPs.goes : ∀ {ps : List (Bool × List C)} {vs : List Value}, RepPs m N s hd ps vs → RepPs m' N' s' hd' ps vs
  | [], [], _ => trivial
  | _ :: _, _ :: _, ⟨h1, h2⟩ => ⟨RepP.goes hN g h1, RepPs.goes h2⟩
theorem RepV.goes : ∀ {v : V} {u : Value}, RepV m N s hd v u → RepV m' N' s' hd' v u
  | .one _, _, h => RepC.goes (c := _) hN g h
  | .agg _, _, ⟨vs, h1, h2⟩ => ⟨vs, h1, RepCs.goes hN g h2⟩
  | .tup _, _, ⟨vs, h1, h2⟩ => ⟨vs, h1, RepPs.goes hN g h2⟩
  | .undef, _, _ => trivial
end

section
variable {m : Mem} {N : Nat → Prop} {s : Sto} {hd : Nat → Value}
theorem RepCs.len : ∀ {cs : List C} {vs : List Value}, RepCs m N s hd cs vs → vs.length = cs.length
  | [], [], _ => rfl
  | _ :: _, _ :: _, ⟨_, h⟩ => by simp [RepCs.len h]
theorem RepCs.append : ∀ {a b : List C} {u v : List Value}, RepCs m N s hd a u → RepCs m N s hd b v → RepCs m N s hd (a ++ b) (u ++ v)
  | [], _, [], _, _, h => h
  | _ :: _, _, _ :: _, _, ⟨h1, h2⟩, h => ⟨h1, RepCs.append h2 h⟩
theorem RepCs.drop : ∀ {n : Nat} {cs : List C} {vs : List Value}, RepCs m N s hd cs vs → RepCs m N s hd (cs.drop n) (vs.drop n)
  | 0, _, _, h => h
  | n + 1, [], [], _ => trivial
  | n + 1, _ :: _, _ :: _, ⟨_, h⟩ => RepCs.drop (n := n) h
theorem RepCs.take : ∀ {n : Nat} {cs : List C} {vs : List Value}, RepCs m N s hd cs vs → RepCs m N s hd (cs.take n) (vs.take n)
  | 0, _, _, _ => trivial
  | n + 1, [], [], _ => trivial
  | n + 1, _ :: _, _ :: _, ⟨h0, h⟩ => ⟨h0, RepCs.take (n := n) h⟩
theorem RepCs.get : ∀ {i : Nat} {cs : List C} {vs : List Value} {c : C}, RepCs m N s hd cs vs → cs[i]? = some c → ∃ v, vs[i]? = some v ∧ RepC m N s hd c v
  | _, [], _, _, _, h => by simp at h
  | 0, _ :: _, v :: _, _, ⟨h0, _⟩, h => by simp at h; subst h; exact ⟨v, by simp, h0⟩
  | i + 1, _ :: _, _ :: _, _, ⟨_, h'⟩, h => by simp at h; simpa using RepCs.get h' h
theorem RepCs.append_inv : ∀ {a b : List C} {vs : List Value}, RepCs m N s hd (a ++ b) vs → ∃ u v, vs = u ++ v ∧ RepCs m N s hd a u ∧ RepCs m N s hd b v
  | [], _, vs, h => ⟨[], vs, rfl, trivial, h⟩
  | _ :: _, _, x :: _, ⟨h1, h2⟩ => by
    obtain ⟨u, v, rfl, h3, h4⟩ := RepCs.append_inv h2
    exact ⟨x :: u, v, rfl, ⟨h1, h3⟩, h4⟩

/-- A value without owned parts, cell by cell. -/
theorem ex_rep : ∀ {τ : Ty} {x : τ.den} {cs : List Value}, τ.isImm = true → RepT m N τ x cs [] → RepCs m N s hd (ex τ x) cs
  | .agg fs, _, _, hi, h => ex_rep (τ := fs) hi h
  | .nil, _, _, _, h => by rw [h.1]; trivial
  | .cons a r, _, _, hi, ⟨c1, c2, F1, F2, h1, h2, h3, h4⟩ => by
    simp only [Ty.isImm, Bool.and_eq_true] at hi
    have e1 := RepT.imm hi.1 h3; have e2 := RepT.imm hi.2 h4
    subst e1; subst e2
    rw [h1]; exact (ex_rep hi.1 h3).append (ex_rep hi.2 h4)
  | .ptr e, x, _, _, ⟨_, b, off, es, h1, h2, h3, h4⟩ => by
    rw [h1]; exact ⟨⟨b, off, es, rfl, h2, h3, h4⟩, trivial⟩
  | .own _, _, _, hi, _ | .box _, _, _, hi, _ | .map _, _, _, hi, _ => by simp [Ty.isImm] at hi
  | .unk, x, cs, _, h => by
    have h' := h
    obtain ⟨_, _, e, _⟩ := h
    subst e; exact ⟨h', trivial⟩
  | .bool, x, cs, _, h => by have e := h.1; subst e; exact ⟨⟨rfl, rfl⟩, trivial⟩
  | .int k, x, cs, _, h => by have e := h.1; subst e; exact ⟨⟨rfl, rfl⟩, trivial⟩
  | .str, x, cs, _, h => by have e := h.1; subst e; exact ⟨⟨rfl, rfl⟩, trivial⟩
  | .sl e, x, cs, _, h => by
    have h' := h
    obtain ⟨_, _, _, _, e, _⟩ := h
    subst e; exact ⟨h', trivial⟩
  | .fn f caps, x, cs, _, h => by
    have h' := h
    obtain ⟨_, _, e, _⟩ := h
    subst e; exact ⟨h', trivial⟩
  | .tree, x, cs, _, h => by
    have h' := h
    obtain ⟨_, _, e, _⟩ := h
    subst e; exact ⟨h', trivial⟩
end

theorem RepC.one' {m : Mem} {N : Nat → Prop} {s : Sto} {hd : Nat → Value} : ∀ {c : C} {v : Value}, RepC m N s hd c v → v.oneCell' = true
  | .imm _ _, v, h => RepT.one' h v (by simp)
  | .iptr _ _ _, _, ⟨_, _, _, h, _⟩ => by rw [h]; rfl
  | .e0, _, ⟨_, h⟩ => by rw [h]; rfl
  | .nilp, _, h => by rw [show _ = Value.pointer none from h]; rfl
  | .own _ _, _, h | .sub _ _ _ _, _, h | .bp _ _ _, _, h | .ep _ _ _ _, _, h | .mp _ _, _, h => h.2.1
theorem RepCs.one' {m : Mem} {N : Nat → Prop} {s : Sto} {hd : Nat → Value} : ∀ {cs : List C} {vs : List Value}, RepCs m N s hd cs vs → ∀ v ∈ vs, v.oneCell' = true
  | [], [], _, v, h => by simp at h
  | _ :: _, _ :: _, ⟨h1, h2⟩, v, h => by
    rcases List.mem_cons.1 h with rfl | h
    · exact RepC.one' h1
    · exact RepCs.one' h2 v h

end Go.Proofs.YtofkhmedmeihiaaPn.Ev
