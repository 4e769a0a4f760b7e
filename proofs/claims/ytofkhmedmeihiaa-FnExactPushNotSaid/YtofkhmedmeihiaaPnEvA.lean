/- The evaluator: loaded Go code over typed plain data. Definitions only. -/
import Derived.Orders
import Derived.Eval
namespace Go.Proofs.YtofkhmedmeihiaaPn.Ev
open Go
noncomputable section

/-! ### 1. Types and their data -/
inductive Ty where
  | bool | int (k : IntKind) | str
  | sl (e : Ty) | own (e : Ty)
  | agg (fs : Ty) | nil | cons (a r : Ty)
  | ptr (e : Ty) | box (e : Ty)
  | fn (f : Nat) (caps : Ty)
  | tree
  | unk | map (v : Ty)
  deriving DecidableEq, Inhabited

inductive Tree where
  | nil
  | mk (op v : Int) (l r : List Int) (kids : List Tree)
  deriving Inhabited

@[reducible] def Ty.den : Ty → Type
  | .bool => Bool
  | .int _ => Int
  | .str => List UInt8
  | .sl e => List e.den
  | .own e => List e.den
  | .agg fs => fs.den
  | .nil => Unit
  | .cons a r => a.den × r.den
  | .ptr e => e.den
  | .box e => e.den
  | .fn _ caps => caps.den
  | .tree => Tree
  | .unk => Unit
  | .map v => List (Int × v.den)

/-- How many cells a value of the type takes. -/
def Ty.sz : Ty → Nat
  | .agg fs => fs.sz
  | .nil => 0
  | .cons a r => a.sz + r.sz
  | _ => 1

/-- No owned part. -/
def Ty.isImm : Ty → Bool
  | .own _ | .box _ | .map _ => false
  | .sl e => e.isImm
  | .agg fs => fs.isImm
  | .cons a r => a.isImm && r.isImm
  | .ptr e => e.isImm
  | .fn _ caps => caps.isImm
  | _ => true

/-- No memory that is shared is reached. -/
def Ty.flat : Ty → Bool
  | .own e => e.flat
  | .agg fs => fs.flat
  | .cons a r => a.flat && r.flat
  | .map v => v.flat
  | .bool | .int _ | .str | .nil | .unk => true
  | _ => false

def Ty.isAgg : Ty → Bool
  | .agg _ => true
  | _ => false

/-- The type as it is read: what is owned is seen alone. -/
@[reducible] def immOf : Ty → Ty
  | .own e => .sl (immOf e)
  | .agg fs => .agg (immOf fs)
  | .cons a r => .cons (immOf a) (immOf r)
  | τ => τ
theorem den_immOf : ∀ τ : Ty, (immOf τ).den = τ.den
  | .own e => congrArg List (den_immOf e)
  | .agg fs => den_immOf fs
  | .cons a r => by show ((immOf a).den × (immOf r).den) = (a.den × r.den); rw [den_immOf a, den_immOf r]
  | .bool | .int _ | .str | .sl _ | .nil | .ptr _ | .box _ | .fn _ _ | .tree | .unk | .map _ => rfl
def toImm (τ : Ty) (x : τ.den) : (immOf τ).den := cast (den_immOf τ).symm x

/-! ### 2. What one cell holds; what a temporary holds -/
inductive C where
  | imm (τ : Ty) (x : τ.den)
  | iptr (τ : Ty) (x : τ.den) (off : Nat)
  | e0
  | nilp
  | own (id ver : Nat)
  | sub (id ver lo hi : Nat)
  | bp (id ver off : Nat)
  | ep (id ver i off : Nat)
  | mp (id ver : Nat)

inductive V where
  | one (c : C)
  | agg (cs : List C)
  | tup (vs : List (Bool × List C))
  | undef

def V.cells : V → List C
  | .one c => [c]
  | .agg cs => cs
  | _ => []
def V.ofCells (agg : Bool) (cs : List C) : V :=
  if agg then .agg cs else match cs with
    | [c] => .one c
    | _ => .undef

inductive Obj where
  | dead
  | vec (e : Ty) (xs : List e.den)
  | fvec (e : Ty) (xs : List e.den)
  | lvec (e : Ty) (xs : List e.den)
  | ovec (e : Ty) (xs : List e.den)
  | hvec (e : Ty) (xs : List e.den) (i : Nat) (x : e.den) (off id ver : Nat)
  | box (cs : List C)
  | fbox (τ : Ty) (x : τ.den)
  | obox
  | mapo (v : Ty) (xs : List (Int × v.den))
  | omap

def Obj.isV : Obj → Bool
  | .vec _ _ | .fvec _ _ | .lvec _ _ | .ovec _ _ | .hvec _ _ _ _ _ _ _ => true
  | _ => false
def Obj.isB : Obj → Bool
  | .box _ | .fbox _ _ | .obox | .mapo _ _ | .omap => true
  | _ => false

def Obj.isL : Obj → Bool
  | .lvec _ _ => true
  | _ => false

/-- The call's own objects by their numbers: a version and what is held. -/
abbrev Sto := Nat → Nat × Obj
def Sto.set (s : Sto) (id : Nat) (e : Nat × Obj) : Sto := fun i => if i = id then e else s i

structure St where
  t : Nat → V
  o : Sto
def St.put (st : St) (d : Nat) (v : V) : St := { st with t := fun i => if i = d then v else st.t i }

/-! ### 3. Data as cells and back -/
/-- A value without owned parts, cell by cell. -/
def ex : (τ : Ty) → τ.den → List C
  | .agg fs, x => ex fs x
  | .nil, _ => []
  | .cons a r, x => ex a x.1 ++ ex r x.2
  | .ptr e, x => [.iptr e x 0]
  | τ, x => [.imm τ x]

structure Inj (α : Type) where
  cs : α
  s : Sto
  b : Nat
  ids : List Nat

/-- A value with its owned parts as new objects, numbered from 'b' on: the cells, the objects, the next number, the new numbers. -/
def inj : (τ : Ty) → τ.den → Sto → Nat → Inj (List C)
  | .agg fs, x, s, b => inj fs x s b
  | .nil, _, s, b => { cs := [], s, b, ids := [] }
  | .cons a r, x, s, b =>
    let p := inj a x.1 s b
    let q := inj r x.2 p.s p.b
    { cs := p.cs ++ q.cs, s := q.s, b := q.b, ids := p.ids ++ q.ids }
  | .own e, x, s, b => { cs := [.own b ((s b).1 + 1)], s := s.set b ((s b).1 + 1, .vec e x), b := b + 1, ids := [b] }
  | .box e, x, s, b =>
    let p := inj e x s (b + 1)
    { cs := [.bp b ((p.s b).1 + 1) 0], s := p.s.set b ((p.s b).1 + 1, .box p.cs), b := p.b, ids := b :: p.ids }
  | .ptr e, x, s, b => { cs := [.iptr e x 0], s, b, ids := [] }
  | .map e, x, s, b => { cs := [.mp b ((s b).1 + 1)], s := s.set b ((s b).1 + 1, .mapo e x), b := b + 1, ids := [b] }
  | τ, x, s, b => { cs := [.imm τ x], s, b, ids := [] }

/-- What a projection finds: the data, the cells behind, the objects now, the numbers of the objects that were met. -/
structure Pr (α : Type) where
  x : α
  rest : List C
  s : Sto
  m : List Nat

def castDen {σ τ : Ty} (h : σ = τ) (x : σ.den) : τ.den := h ▸ x

def nodeTy : Ty := .cons (.int .i64) (.cons (.int .i64) (.cons (.sl (.int .i64)) (.cons (.sl (.int .i64)) (.cons (.sl .tree) .nil))))
def nodeTree (x : nodeTy.den) : Tree := .mk x.1 x.2.1 x.2.2.1 x.2.2.2.1 x.2.2.2.2.1

/-- A slice off a cell: what is owned is frozen, or lent. -/
def prSl (lend : Bool) (e : Ty) (c : C) (s : Sto) : Option (List e.den × Sto × List Nat) :=
  match c with
  | .imm σ x => if h : σ = .sl e then some (castDen h x, s, []) else none
  | .e0 => some ([], s, [])
  | .own id ver => match s id with
    | (v, .vec e' xs) => if v = ver ∧ (immOf e').isImm = true then if h : Ty.sl (immOf e') = .sl e then some (castDen h (toImm (.own e') xs), s.set id (v, if lend then .lvec e' xs else .fvec (immOf e') (toImm (.own e') xs)), [id]) else none else none
    | (v, .fvec e' xs) => if v = ver then if h : Ty.sl e' = .sl e then some (castDen h xs, s, [id]) else none else none
    | (v, .lvec e' xs) => if v = ver ∧ lend = true ∧ (immOf e').isImm = true then if h : Ty.sl (immOf e') = .sl e then some (castDen h (toImm (.own e') xs), s, [id]) else none else none
    | _ => none
  | .sub id ver lo hi => match s id with
    | (v, .vec e' xs) => if v = ver ∧ (immOf e').isImm = true then if h : Ty.sl (immOf e') = .sl e then some (castDen h (((toImm (.own e') xs : List (immOf e').den).take hi).drop lo), s.set id (v, if lend then .lvec e' xs else .fvec (immOf e') (toImm (.own e') xs)), [id]) else none else none
    | (v, .fvec e' xs) => if v = ver then if h : Ty.sl e' = .sl e then some (castDen h ((xs.take hi).drop lo), s, [id]) else none else none
    | (v, .lvec e' xs) => if v = ver ∧ lend = true ∧ (immOf e').isImm = true then if h : Ty.sl (immOf e') = .sl e then some (castDen h (((toImm (.own e') xs : List (immOf e').den).take hi).drop lo), s, [id]) else none else none
    | _ => none
  | _ => none

/-- A tree's node off a box's cells. -/
def prNode (ds : List C) (s : Sto) : Option (nodeTy.den × Sto × List Nat) :=
  match ds with
  | [.imm (.int .i64) op, .imm (.int .i64) v, c, d, k] => match prSl false (.int .i64) c s with
    | some (l, s1, m1) => match prSl false (.int .i64) d s1 with
      | some (r, s2, m2) => match prSl false .tree k s2 with
        | some (kids, s3, m3) => some ((op, v, l, r, kids, ()), s3, m3 ++ (m2 ++ (m1 ++ [])))
        | none => none
      | none => none
    | none => none
  | _ => none

/-- An owned row inside of data, at a cell. -/
def getAt : (e : Ty) → e.den → Nat → Option (Sigma fun σ : Ty => List σ.den)
  | .own σ, x, n => match n with
    | 0 => some ⟨σ, x⟩
    | _ => none
  | .agg fs, x, n => getAt fs x n
  | .cons a r, x, n => if n < a.sz then getAt a x.1 n else getAt r x.2 (n - a.sz)
  | _, _, _ => none
/-- The same data with another row there. -/
def setAt : (e : Ty) → e.den → Nat → (σ : Ty) → List σ.den → Option e.den
  | .own τ, _, n, σ, y => match n with
    | 0 => if h : Ty.own σ = .own τ then some (castDen h y) else none
    | _ => none
  | .agg fs, x, n, σ, y => setAt fs x n σ y
  | .cons a r, x, n, σ, y =>
    if n < a.sz then match setAt a x.1 n σ y with
      | some z => some (z, x.2)
      | none => none
    else match setAt r x.2 (n - a.sz) σ y with
      | some z => some (x.1, z)
      | none => none
  | _, _, _, _, _ => none
/-- A row of which a part is out, with the part as it is now. -/
def fillK (s : Sto) (e : Ty) (xs : List e.den) (i : Nat) (x : e.den) (off id' ver' : Nat) : Option (List e.den × Sto) :=
  match s id' with
  | (v, .vec σ ys) => if v = ver' then match setAt e x off σ ys with
      | some x' => some (xs.set i x', s.set id' (v, .ovec σ ys))
      | none => none
    else none
  | _ => none

/-- Reads data of a type off cells. What is owned is consumed ('own', 'box'), frozen ('sl' out of an owned row, 'ptr' out of a box) or lent ('lend'). -/
def pr (lend : Bool) : (τ : Ty) → List C → Sto → List Nat → Option (Pr τ.den)
  | .agg fs, cs, s, m => pr lend fs cs s m
  | .nil, cs, s, m => some { x := (), rest := cs, s, m }
  | .cons a r, cs, s, m =>
    match pr lend a cs s m with
    | none => none
    | some p => match pr lend r p.rest p.s p.m with
      | none => none
      | some q => some { x := (p.x, q.x), rest := q.rest, s := q.s, m := q.m }
  | .sl e, cs, s, m => match cs with
    | c :: r => match prSl lend e c s with
      | some (x, s', m') => some { x, rest := r, s := s', m := m' ++ m }
      | none => none
    | _ => none
  | .own e, cs, s, m => match cs with
    | .e0 :: r => some { x := [], rest := r, s, m }
    | .own id ver :: r => match s id with
      | (v, .vec e' xs) => if v = ver then if h : Ty.own e' = .own e then some { x := castDen h xs, rest := r, s := s.set id (v, .ovec e' xs), m := id :: m } else none else none
      | (v, .hvec e' xs i y off id' ver') => if v = ver ∧ id' ≠ id then match fillK s e' xs i y off id' ver' with
          | some (ys, s') => if h : Ty.own e' = .own e then some { x := castDen h ys, rest := r, s := s'.set id (v, .ovec e' ys), m := id :: id' :: m } else none
          | none => none
        else none
      | _ => none
    | _ => none
  | .ptr e, cs, s, m => match cs with
    | .iptr σ x 0 :: r => if h : Ty.ptr σ = .ptr e then some { x := castDen h x, rest := r, s, m } else none
    | .bp id ver 0 :: r => match s id with
      | (v, .box ds) =>
        if v = ver ∧ e.isImm = true then match pr false e ds s [] with
          | some { x, rest := [], s := s', m := m' } => if m'.contains id = true then none else some { x, rest := r, s := s'.set id (v, .fbox e x), m := id :: (m' ++ m) }
          | _ => none
        else none
      | (v, .fbox σ x) => if v = ver then if h : Ty.ptr σ = .ptr e then some { x := castDen h x, rest := r, s, m := id :: m } else none else none
      | _ => none
    | _ => none
  | .box e, cs, s, m => match cs with
    | .bp id ver 0 :: r => match s id with
      | (v, .box ds) => if v = ver then match pr false e ds s [] with
        | some { x, rest := [], s := s', m := m' } => if m'.contains id = true then none else some { x, rest := r, s := s'.set id (v, .obox), m := id :: (m' ++ m) }
        | _ => none
        else none
      | _ => none
    | _ => none
  | .tree, cs, s, m => match cs with
    | .imm σ x :: r => if h : σ = .tree then some { x := castDen h x, rest := r, s, m } else none
    | .nilp :: r => some { x := .nil, rest := r, s, m }
    | .bp id ver 0 :: r => match s id with
      | (v, .box ds) => if v = ver then match prNode ds s with
        | some (x, s', m') => if m'.contains id = true then none else some { x := nodeTree x, rest := r, s := s'.set id (v, .fbox (.agg nodeTy) x), m := id :: (m' ++ m) }
        | none => none
        else none
      | (v, .fbox σ x) => if v = ver then if h : σ = .agg nodeTy then some { x := nodeTree (castDen (τ := .agg nodeTy) h x), rest := r, s, m := id :: m } else none else none
      | _ => none
    | .iptr σ x 0 :: r => if h : σ = .agg nodeTy then some { x := nodeTree (castDen (τ := .agg nodeTy) h x), rest := r, s, m } else none
    | _ => none
  | .unk, cs, s, m => match cs with
    | _ :: r => some { x := (), rest := r, s, m }
    | _ => none
  | .map e, cs, s, m => match cs with
    | .mp id ver :: r => match s id with
      | (v, .mapo e' xs) => if v = ver then if h : Ty.map e' = .map e then some { x := castDen (σ := .map e') (τ := .map e) h xs, rest := r, s := s.set id (v, .omap), m := id :: m } else none else none
      | _ => none
    | _ => none
  | τ, cs, s, m => match cs with
    | .imm σ x :: r => if h : σ = τ then some { x := castDen h x, rest := r, s, m } else none
    | _ => none

/-! ### 4. The program's tables, as the evaluator asks them -/
section tables
variable (P : Program)
def szP (t : TypeId) : Nat := ((P.info? t).map (·.size)).getD 0
def bytesP (t : TypeId) : Nat := ((P.info? t).map (·.bytes)).getD 0
def isAggP (t : TypeId) : Bool := match P.underlying t with
  | some (.struct _) | some (.array _ _) => true
  | _ => false
def elemP (t : TypeId) : Option TypeId := match P.underlying t with
  | some (.slice e) => some e
  | _ => none
def fieldsP (t : TypeId) : List Field := match P.underlying t with
  | some (.struct fs) => fs.toList
  | _ => []
def tyFs (rec : TypeId → Option Ty) : List Field → Option Ty
  | [] => some .nil
  | f :: r => match rec f.type, tyFs rec r with
    | some a, some b => some (.cons a b)
    | _, _ => none
/-- The type without owned parts that a table's row stands for. -/
def tyP : Nat → TypeId → Option Ty
  | 0, _ => none
  | n + 1, t => match P.underlying t with
    | some .bool => some .bool
    | some (.int k) => some (.int k)
    | some .string => some .str
    | some (.pointer _) => some .tree
    | some (.slice e) => match tyP n e with
      | some a => some (.sl a)
      | none => none
    | some (.struct fs) => match tyFs (tyP n) fs.toList with
      | some a => some (.agg a)
      | none => none
    | _ => none
end tables

def constC : Value → Option C
  | .bool b => some (.imm .bool b)
  | .int k n => some (.imm (.int k) n)
  | .string s => some (.imm .str s.data.toList)
  | .slice none 0 0 => some .e0
  | .pointer none => some .nilp
  | _ => none
def constCs : List Value → Option (List C)
  | [] => some []
  | v :: r => match constC v, constCs r with
    | some c, some cs => some (c :: cs)
    | _, _ => none
def ofC : Option C → V
  | some c => .one c
  | none => .undef
def constV : Value → V
  | .agg cs => match constCs cs.toList with
    | some l => .agg l
    | none => .undef
  | v => ofC (constC v)

/-- The zero value is not made of parts. -/
def zeroOne (P : Program) (t : TypeId) : Bool :=
  match (P.info? t).bind (·.zero) with
  | some (.agg _) | some (.tuple _) => false
  | some _ => true
  | none => false

def zeroCs (P : Program) (t : TypeId) : Option (List C) :=
  match (P.info? t).bind (·.zero) with
  | some z => constCs z.cells.toList
  | none => none

end
end Go.Proofs.YtofkhmedmeihiaaPn.Ev
