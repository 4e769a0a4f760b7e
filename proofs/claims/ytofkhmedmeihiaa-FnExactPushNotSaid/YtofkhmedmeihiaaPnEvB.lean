/- The evaluator: operations, code, calls and loops, and its limit. Definitions only. -/
import Derived.Test.YtofkhmedmeihiaaPnEvA
namespace Go.Proofs.YtofkhmedmeihiaaPn.Ev
open Go
noncomputable section

/-! ### 5. Signatures, hints, oracles -/
/-- What a loop's head and its way out bear: temporaries and their types (a field list). 'ex': the block that is left. -/
structure LoopH where
  key : Nat
  ht : List Nat
  hτ : Ty
  ex : Nat
  ot : List Nat
  oτ : Ty

inductive Hint where
  | none
  | cut (ts : List Nat) (τ : Ty) (exits : Bool)
  | loop (h : LoopH)

/-- The parts of a parameter list that go back to the caller. -/
def ioTy : List Bool → Ty → Ty
  | true :: io, .cons a r => .cons a (ioTy io r)
  | false :: io, .cons _ r => ioTy io r
  | _, _ => .nil

structure Env where
  P : Program
  ps : Nat → Ty
  io : Nat → List Bool
  rs : Nat → Ty
  caps : Nat → Ty
  hint : Nat → Nat → Hint
  ext : (f : Nat) → Option ((ps f).den → Option ((rs f).den × (ioTy (io f) (ps f)).den))
  clone : Nat → Option TypeId
  deep : Nat → TypeId → Option Ty
  borrow : Nat → TypeId → Bool
  twin : Nat → Nat → Nat

/-- The elements of a row that an operation makes. -/
def Env.elt (E : Env) (d : Option Nat) (te : TypeId) : Option Ty := match E.deep (d.getD 0) te with
  | some e => some e
  | none => tyP E.P 20 te

@[reducible] def Env.Ret (E : Env) (f : Nat) : Type := (E.rs f).den × (ioTy (E.io f) (E.ps f)).den

structure Oracle (E : Env) where
  C : (f : Nat) → (E.ps f).den → Option (E.Ret f)
  L : (f : Nat) → (h : LoopH) → Code → h.hτ.den → Option (h.oτ.den ⊕ E.Ret f)

/-! ### 6. Several values at once -/
def V.fits : V → Ty → Bool
  | .one _, a => !a.isAgg && a.sz == 1
  | .agg _, a => a.isAgg
  | _, _ => false

/-- Values, one for each field of a list of types. -/
def prFs (lend : Bool) : (τs : Ty) → List V → Sto → List Nat → Option (Pr τs.den)
  | .nil, [], s, m => some { x := (), rest := [], s, m }
  | .cons a r, v :: vs, s, m =>
    if v.fits a = true then
      match pr lend a v.cells s m with
      | some { x, rest := [], s := s1, m := m1 } => match prFs lend r vs s1 m1 with
        | some q => some { x := (x, q.x), rest := [], s := q.s, m := q.m }
        | none => none
      | _ => none
    else none
  | _, _, _, _ => none

/-- Data laid into values; the objects that come with them; the next number. -/
def injFs : (τs : Ty) → τs.den → Sto → Nat → Inj (List V)
  | .cons a r, x, s, b =>
    let p := inj a x.1 s b
    let q := injFs r x.2 p.s p.b
    { cs := V.ofCells a.isAgg p.cs :: q.cs, s := q.s, b := q.b, ids := p.ids ++ q.ids }
  | _, _, s, b => { cs := [], s, b, ids := [] }

def laid : List Nat → List V → Nat → V
  | t :: ts, v :: vs, i => if i = t then v else laid ts vs i
  | _, _, _ => .undef

def sto0 : Sto := fun _ => (0, .dead)

/-- A state that holds no more than some temporaries. -/
def stOf (ts : List Nat) (τ : Ty) (x : τ.den) : St :=
  let p := injFs τ x sto0 1000000
  { t := laid ts p.cs, o := p.s }

def prSt (ts : List Nat) (τ : Ty) (st : St) : Option τ.den :=
  match prFs false τ (ts.map st.t) st.o [] with
  | some q => some q.x
  | none => none

/-- What comes back of data lies where it lay. -/
def backCs : (τ : Ty) → List C → τ.den → Sto → Nat → Option (Inj (List C))
  | .agg fs, cs, z, s, b => backCs fs cs z s b
  | .nil, cs, _, s, b => some { cs, s, b, ids := [] }
  | .cons a r, cs, z, s, b => match backCs a cs z.1 s b with
    | none => none
    | some p => match backCs r p.cs z.2 p.s p.b with
      | none => none
      | some q => some { cs := q.cs, s := q.s, b := q.b, ids := p.ids ++ q.ids }
  | .own e, cs, z, s, b => match cs with
    | .own id ver :: r => match s id with
      | (w, .ovec e' _) => if w = ver ∧ e' = e then some { cs := r, s := s.set id (w, .vec e z), b, ids := [id] } else none
      | _ => none
    | .e0 :: r => some { cs := r, s, b, ids := [] }
    | _ => none
  | .box _, _, _, _, _ => none
  | τ, cs, _, s, b => match cs with
    | _ :: r => if τ.isImm = true ∧ τ.sz = 1 then some { cs := r, s, b, ids := [] } else none
    | _ => none

def back1 (v : V) (s : Sto) (b : Nat) : (a : Ty) → a.den → Option (Inj Unit)
  | .own e, z => match v with
    | .one (.own id ver) => match s id with
      | (w, .ovec e' _) => if w = ver ∧ e' = e then some { cs := (), s := s.set id (w, .vec e z), b, ids := [id] } else none
      | _ => none
    | .one .e0 => some { cs := (), s, b, ids := [] }
    | _ => none
  | .box e, z => match v with
    | .one (.bp id ver 0) =>
      let p := inj e z s b
      match p.s id with
      | (w, .obox) => if w = ver then some { cs := (), s := p.s.set id (w, .box p.cs), b := p.b, ids := p.ids ++ [id] } else none
      | _ => none
    | _ => none
  | .map e, z => match v with
    | .one (.mp id ver) => match s id with
      | (w, .omap) => if w = ver then some { cs := (), s := s.set id (w, .mapo e z), b, ids := [id] } else none
      | _ => none
    | _ => none
  | .agg fs, z => match v with
    | .agg cs => match backCs fs cs z s b with
      | some { cs := [], s := s', b := b', ids } => some { cs := (), s := s', b := b', ids }
      | _ => none
    | _ => none
  | _, _ => none

/-- What a call gives back of its arguments is laid into the objects that they are. -/
def back : (io : List Bool) → (τs : Ty) → List V → (ioTy io τs).den → Sto → Nat → Option (Inj Unit)
  | true :: io, .cons a r, v :: vs, z, s, b => match back1 v s b a z.1 with
    | some l1 => match back io r vs z.2 l1.s l1.b with
      | some l2 => some { cs := (), s := l2.s, b := l2.b, ids := l1.ids ++ l2.ids }
      | none => none
    | none => none
  | false :: io, .cons _ r, _ :: vs, z, s, b => back io r vs z s b
  | [], .nil, [], _, s, b => some { cs := (), s, b, ids := [] }
  | _, _, _, _, _, _ => none

def unlend (s0 s1 : Sto) : Sto := fun i => match (s1 i).2 with
  | .lvec _ _ => s0 i
  | _ => s1 i

/-! ### 7. One operation -/
def isBoolT (P : Program) (t : TypeId) : Bool := match P.underlying t with
  | some .bool => true
  | _ => false
def isStrT (P : Program) (t : TypeId) : Bool := match P.underlying t with
  | some .string => true
  | _ => false
def okP (P : Program) (t : TypeId) : Bool := (P.underlying t).isSome
def callable (P : Program) (f : FuncId) : Bool := match P.funcs[f]? with
  | some fn => fn.body.isSome && fn.name != "runtime.NumGoroutine"
  | none => false
/-- A function is known by its number and by the first function value that it is handed: its own number stands below 65536. -/
def rl (v : Nat) : Nat := v % 65536
def virt (f : Nat) : List V → Nat
  | [] => f
  | .one (.imm (.fn g _) _) :: _ => f + 65536 * (g + 1)
  | _ :: r => virt f r

/-- What a function value holds: one cell each, nothing owned. -/
def capsOk : Ty → Bool
  | .nil => true
  | .cons a r => !a.isAgg && a.sz == 1 && a.isImm && capsOk r
  | _ => false
/-- Values without owned parts, one for each field of a list of types. -/
def exFs : (τs : Ty) → τs.den → List V
  | .cons a r, x => V.ofCells a.isAgg (ex a x.1) :: exFs r x.2
  | _, _ => []
def _root_.Go.Call.argTypes0 (c : Go.Call) (P : Program) : Option TypeDesc := (c.argTypes[0]?).bind P.underlying

/-- What an operation does: the value, the objects behind it, those that it may have changed, those that it read. -/
structure Eff where
  v : V
  s : Sto
  w : List Nat := []
  r : List Nat := []

/-- The state behind it: objects that it may have changed are taken from it, all others stay. -/
def St.app (st : St) (d : Option Nat) (e : Eff) : St :=
  { t := match d with
      | some d => fun i => if i = d then e.v else st.t i
      | none => st.t,
    o := fun i => if e.w.contains i then e.s i else st.o i }

def St.eval (st : St) : Operand → V
  | .tmp t => st.t t
  | .const v => constV v
  | .global _ => .undef
  | .func f => .one (.imm (.fn f .nil) ())

def V.one? : V → Option C
  | .one c => some c
  | _ => none

def shlI (k : IntKind) (x y : Int) : Int := k.wrap (x * 2 ^ (min y.toNat k.bits))
def shrI (k : IntKind) (x y : Int) : Int := x.fdiv (2 ^ (min y.toNat k.bits))
def bitsI (op : BinOp) (k : IntKind) (x y : Int) : Int :=
  let a := BitVec.ofInt k.bits x
  let b := BitVec.ofInt k.bits y
  k.wrap (match op with
    | .and => a &&& b
    | .or => a ||| b
    | _ => a ^^^ b).toNat

variable {R : Type}

def binInt (op : BinOp) (k : IntKind) (x y : Int) (K : C → Option R) : Option R :=
  match op with
  | .add => K (.imm (.int k) (k.wrap (x + y)))
  | .sub => K (.imm (.int k) (k.wrap (x - y)))
  | .mul => K (.imm (.int k) (k.wrap (x * y)))
  | .quo => if y = 0 then none else K (.imm (.int k) (k.wrap (x.tdiv y)))
  | .rem => if y = 0 then none else K (.imm (.int k) (x.tmod y))
  | .and | .or | .xor => K (.imm (.int k) (bitsI op k x y))
  | .eql => K (.imm .bool (x == y))
  | .neq => K (.imm .bool (x != y))
  | .lss => K (.imm .bool (decide (x < y)))
  | .leq => K (.imm .bool (decide (x ≤ y)))
  | .gtr => K (.imm .bool (decide (x > y)))
  | .geq => K (.imm .bool (decide (x ≥ y)))
  | _ => none

def binStr (op : BinOp) (x y : List UInt8) (K : C → Option R) : Option R :=
  match op with
  | .add => if x.length + y.length ≤ 4611686018427387904 then K (.imm .str (x ++ y)) else none
  | .eql => K (.imm .bool (x == y))
  | .neq => K (.imm .bool (!(x == y)))
  | .lss => K (.imm .bool (Op.bytesLess x y))
  | .leq => K (.imm .bool (Op.bytesLess x y || x == y))
  | .gtr => K (.imm .bool (!(Op.bytesLess x y || x == y)))
  | .geq => K (.imm .bool (!Op.bytesLess x y))
  | _ => none

def binC (tb : Bool) (op : BinOp) (a b : C) (K : C → Option R) : Option R :=
  match a, b with
  | .imm (.int k) x, .imm (.int k') y =>
    match op with
    | .shl => if (y : Int) < 0 then none else K (.imm (.int k) (shlI k x y))
    | .shr => if (y : Int) < 0 then none else K (.imm (.int k) (shrI k x y))
    | _ => if k = k' then binInt op k x y K else none
  | .imm .bool x, .imm .bool y =>
    if tb = true then match op with
      | .eql => K (.imm .bool ((x : Bool) == (y : Bool)))
      | .neq => K (.imm .bool (!((x : Bool) == (y : Bool))))
      | _ => none
    else none
  | .imm .str x, .imm .str y => binStr op x y K
  | _, _ => none

def unC (op : UnOp) (a : C) (K : C → Option R) : Option R :=
  match op, a with
  | .not, .imm .bool x => K (.imm .bool (!x))
  | .neg, .imm (.int k) x => K (.imm (.int k) (k.wrap (0 - x)))
  | .xor, .imm (.int k) x => K (.imm (.int k) (bitsI .xor k (if k.signed then -1 else k.max) x))
  | _, _ => none

/-- A slice that is read: its elements' type, the elements, the object that was looked into. -/
def getSl (c : C) (s : Sto) (K : (e : Ty) → List e.den → List Nat → Option R) : Option R :=
  match c with
  | .imm (.sl e) xs => K e xs []
  | .own id ver => match s id with
    | (v, .vec e xs) => if v = ver then K e xs [id] else none
    | (v, .fvec e xs) => if v = ver then K e xs [id] else none
    | _ => none
  | .sub id ver lo hi => match s id with
    | (v, .vec e xs) => if v = ver then K e ((xs.take hi).drop lo) [id] else none
    | (v, .fvec e xs) => if v = ver then K e ((xs.take hi).drop lo) [id] else none
    | _ => none
  | _ => none

def lenC (t : Option TypeDesc) (c : C) (s : Sto) (K : Int → List Nat → Option R) : Option R :=
  match t with
  | some .string => match c with
    | .imm .str x => K (x.length : Int) []
    | _ => none
  | some (.slice _) => match c with
    | .e0 => K 0 []
    | c => getSl c s fun _ xs m => K (xs.length : Int) m
  | some (.map _ _) => match c with
    | .mp id ver => match s id with
      | (v, .mapo _ xs) => if v = ver then K (xs.length : Int) [id] else none
      | _ => none
    | _ => none
  | _ => none

def idx {α : Type} (xs : List α) (i : Int) : Option α := if 0 ≤ i then xs[i.toNat]? else none

/-- The cells at an address. -/
def cellsAt (c : C) (s : Sto) (K : List C → List Nat → Option R) : Option R :=
  match c with
  | .iptr τ x off => if τ.isImm = true then K ((ex τ x).drop off) [] else none
  | .bp id ver off => match s id with
    | (v, .box cs) => if v = ver then K (cs.drop off) [id] else none
    | (v, .fbox τ x) => if v = ver ∧ τ.isImm = true then K ((ex τ x).drop off) [id] else none
    | _ => none
  | .ep id ver i off => match s id with
    | (v, .vec e xs) => if v = ver ∧ e.isImm = true then (xs[i]?).bind fun x => K ((ex e x).drop off) [id] else none
    | _ => none
  | _ => none

def setCs (cs : List C) (off : Nat) (vs : List C) : List C := cs.take off ++ vs ++ cs.drop (off + vs.length)

def strBytes (x : List UInt8) : List Int := x.map fun b => (b.toNat : Int)
def bytesStr (x : List Int) : List UInt8 := x.map fun n => UInt8.ofNat n.toNat

/-- Data with some of its cells laid anew. -/
def putAt : (e : Ty) → e.den → Nat → List C → Sto → Option (Pr e.den)
  | .agg fs, x, n, cs, s => if n = 0 ∧ cs.length = fs.sz then pr false fs cs s [] else putAt fs x n cs s
  | .cons a r, x, n, cs, s =>
    if n < a.sz then match putAt a x.1 n cs s with
      | some p => some { x := (p.x, x.2), rest := p.rest, s := p.s, m := p.m }
      | none => none
    else match putAt r x.2 (n - a.sz) cs s with
      | some p => some { x := (x.1, p.x), rest := p.rest, s := p.s, m := p.m }
      | none => none
  | τ, _, n, cs, s => if n = 0 ∧ cs.length = τ.sz then pr false τ cs s [] else none

/-- An element of a row whose elements own rows. -/
def deepEp (v : V) (s : Sto) : Bool := match v with
  | .one (.ep id _ _ _) => match (s id).2 with
    | .vec e _ => !e.isImm
    | .hvec _ _ _ _ _ _ _ => true
    | _ => false
  | _ => false

/-- A part of a row is taken out: an object of its own from now on. -/
def borrowK (new id v : Nat) (e : Ty) (xs : List e.den) (i off : Nat) (s : Sto) (w : List Nat) (K : Eff → Option R) : Option R :=
  match xs[i]? with
  | some x => match getAt e x off with
    | some ⟨σ, ys⟩ => if new ≠ id ∧ w.contains new = false then
        K { v := .one (.own new ((s new).1 + 1)), s := (s.set id (v, .hvec e xs i x off new ((s new).1 + 1))).set new ((s new).1 + 1, .vec σ ys), w := id :: new :: w }
      else none
    | none => none
  | none => none

/-- Elements for a new row: each part of one element's cells. -/
def prElems (e : Ty) : List (List C) → Sto → List Nat → Option (Pr (List e.den))
  | [], s, m => some { x := [], rest := [], s, m }
  | cs :: r, s, m => match pr false e cs s m with
    | some { x, rest := [], s := s1, m := m1 } => match prElems e r s1 m1 with
      | some q => some { x := x :: q.x, rest := [], s := q.s, m := q.m }
      | none => none
    | _ => none

/-- Parts laid over a struct's zero cells. -/
def fillCs (P : Program) (fs : List Field) : List (Nat × V) → List C → Option (List C)
  | [], cs => some cs
  | (i, v) :: r, cs => match fs[i]? with
    | some f => if v.cells.length = szP P f.type ∧ f.offset + szP P f.type ≤ cs.length ∧ v.cells.length ≠ 0 then fillCs P fs r (setCs cs f.offset v.cells) else none
    | none => none

/-- A struct all whose fields the tables know. -/
def buildable (P : Program) (t : TypeId) : Bool := match P.underlying t with
  | some (.struct fs) => fs.toList.all fun f => (P.info? f.type).isSome
  | _ => false
def hasZero (P : Program) (t : TypeId) : Bool := match P.info? t with
  | some i => match i.zero with
    | some z => z.cells.size == i.size
    | none => false
  | none => false

def isStrC : C → Bool
  | .imm .str _ => true
  | _ => false

def isE0 : C → Bool
  | .e0 => true
  | _ => false

/-- What is appended: elements of a slice, or a string's bytes. -/
def srcK (x : C) (s : Sto) (K : (e : Ty) → List e.den → List Nat → Option R) : Option R := match x with
  | .imm .str y => K (.int .u8) (strBytes y) []
  | x => getSl x s K

/-- A row of elements with owned parts. -/
def deepOf (x : C) (s : Sto) : Option (Nat × Nat × Sigma fun e : Ty => List e.den) := match x with
  | .own id ver => match s id with
    | (v, .vec e ys) => if v = ver ∧ e.isImm = false then some (id, v, ⟨e, ys⟩) else none
    | _ => none
  | _ => none

/-- Elements with owned parts are handed over. -/
def appendD (P : Program) (t : TypeId) (new : Nat) (c : C) (id2 v2 : Nat) (e : Ty) (ys : List e.den) (s : Sto) (K : Eff → Option R) : Option R :=
  match elemP P t with
  | none => none
  | some te =>
    let room (n : Nat) (k : Option R) : Option R := if n * bytesP P te ≤ 140737488355328 then k else none
    if hasZero P te = true ∧ bytesP P te ≠ 0 ∧ szP P te ≠ 0 ∧ e.sz = szP P te then
      match c with
      | .e0 => if new ≠ id2 then room ys.length (K { v := .one (.own new ((s new).1 + 1)), s := (s.set id2 (v2, .ovec e ys)).set new ((s new).1 + 1, .vec e ys), w := [new, id2] }) else none
      | .own id ver => match s id with
        | (v, .vec e' xs) =>
          if v = ver ∧ id ≠ id2 then
            if h : Ty.sl e = .sl e' then room (xs.length + ys.length) (K { v := .one (.own id (ver + 1)), s := (s.set id2 (v2, .ovec e ys)).set id (ver + 1, .vec e' (xs ++ castDen (τ := .sl e') h ys)), w := [id, id2] })
            else none
          else none
        | _ => none
      | _ => none
    else none

def appendK (P : Program) (t : TypeId) (new : Nat) (c x : C) (s : Sto) (K : Eff → Option R) : Option R :=
  match elemP P t with
  | none => none
  | some te =>
    let room (n : Nat) (k : Option R) : Option R := if n * bytesP P te ≤ 140737488355328 then k else none
    if hasZero P te = true ∧ bytesP P te ≠ 0 ∧ szP P te ≠ 0 then
      match x with
      | .e0 => match c with
        | .e0 => K { v := .one .e0, s }
        | .own id ver => match s id with
          | (v, .vec _ _) => if v = ver then K { v := .one (.own id ver), s, r := [id] } else none
          | _ => none
        | _ => none
      | x => srcK x s fun e ys m => if e.isImm = true ∧ e.sz = szP P te then
        match c with
        | .e0 => if m.contains new = false then room ys.length (K { v := .one (.own new ((s new).1 + 1)), s := s.set new ((s new).1 + 1, .vec e ys), w := [new], r := m }) else none
        | .own id ver => match s id with
          | (v, .vec e' xs) =>
            if v = ver ∧ m.contains id = false then
              if h : Ty.sl e = .sl e' then room (xs.length + ys.length) (K { v := .one (.own id (ver + 1)), s := s.set id (ver + 1, .vec e' (xs ++ castDen (τ := .sl e') h ys)), w := [id], r := m })
              else none
            else none
          | _ => none
        | .sub id ver lo hi => match s id with
          | (v, .vec e' xs) =>
            if v = ver ∧ m.contains id = false ∧ lo = 0 then
              if h : Ty.sl e = .sl e' then room (hi + ys.length) (K { v := .one (.own id (ver + 1)), s := s.set id (ver + 1, .vec e' (xs.take hi ++ castDen (τ := .sl e') h ys)), w := [id], r := m })
              else none
            else none
          | _ => none
        | _ => none
        else none
    else none

/-- What stands in a map at a key. -/
def mget {α : Type} : List (Int × α) → Int → α → α
  | [], _, z => z
  | (a, b) :: r, k, z => if a = k then b else mget r k z
def mhas {α : Type} : List (Int × α) → Int → Bool
  | [], _ => false
  | (a, _) :: r, k => if a = k then true else mhas r k
/-- A map with something put at a key. -/
def mput {α : Type} : List (Int × α) → Int → α → List (Int × α)
  | [], k, y => [(k, y)]
  | (a, b) :: r, k, y => if a = k then (a, y) :: r else (a, b) :: mput r k y
/-- A map's keys are whole numbers. -/
def mapInt (P : Program) (t : TypeId) : Option TypeId := match P.underlying t with
  | some (.map k e) => match P.underlying k with
    | some (.int .i64) => some e
    | _ => none
  | _ => none

/-- Bounds of a slice expression over n elements. -/
def boundsK (n : Int) (lo hi : Option V) (K : Nat → Nat → Option R) : Option R :=
  let num (v : Option V) (d : Int) (k : Int → Option R) : Option R := match v with
    | none => k d
    | some (.one (.imm (.int _) i)) => k i
    | _ => none
  num lo 0 fun l => num hi n fun h => if 0 ≤ l ∧ l ≤ h ∧ h ≤ n then K l.toNat h.toNat else none

def sliceK (t : Option TypeDesc) (sz : Nat) (c : C) (lo hi : Option V) (s : Sto) (K : C → List Nat → Option R) : Option R :=
  match t, c with
  | some .string, .imm .str x => boundsK x.length lo hi fun l h => K (.imm .str ((x.take h).drop l)) []
  | some (.slice _), .imm (.sl e) x => if e.sz = sz ∧ sz ≠ 0 then boundsK x.length lo hi fun l h => K (.imm (.sl e) ((x.take h).drop l)) [] else none
  | some (.slice _), .e0 => if sz ≠ 0 then boundsK 0 lo hi fun _ _ => K .e0 [] else none
  | some (.slice _), .own id ver => match s id with
    | (v, .vec e xs) => if v = ver ∧ e.sz = sz ∧ sz ≠ 0 then boundsK xs.length lo hi fun l h => K (.sub id ver l h) [id] else none
    | (v, .fvec e xs) => if v = ver ∧ e.sz = sz ∧ sz ≠ 0 then boundsK xs.length lo hi fun l h => K (.imm (.sl e) ((xs.take h).drop l)) [id] else none
    | _ => none
  | _, _ => none

/-- The objects' numbers that an operation may take for what it makes. -/
def newId (d : Option Nat) : Nat := match d with
  | some d => 64 * d
  | none => 999999

def V.pair : V → Bool × List C
  | .agg cs => (true, cs)
  | v => (false, v.cells)
def tupOf (vs : List V) : V := match vs with
  | [v] => v
  | vs => .tup (vs.map V.pair)

def callK (E : Env) (O : Oracle E) (g : Nat) (args : List V) (s : Sto) (b : Nat) (K : Eff → Option R) : Option R :=
  match prFs ((E.rs g).flat && (ioTy (E.io g) (E.ps g)).flat) (E.ps g) args s [] with
  | none => none
  | some p => (O.C g p.x).bind fun yz =>
    match back (E.io g) (E.ps g) args yz.2 (unlend s p.s) (b + 32) with
    | none => none
    | some l =>
      let q := injFs (E.rs g) yz.1 l.s b
      if q.b ≤ b + 32 ∧ l.b ≤ b + 64 then K { v := tupOf q.cs, s := q.s, w := p.m ++ l.ids ++ q.ids } else none

/-- A new object. -/
def mkObj (d : Option Nat) (s : Sto) (o : Obj) (c : Nat → Nat → C) (w : List Nat) (K : Eff → Option R) : Option R :=
  K { v := .one (c (newId d) ((s (newId d)).1 + 1)), s := s.set (newId d) ((s (newId d)).1 + 1, o), w := newId d :: w }

def exOp (E : Env) (O : Oracle E) (o : Oper) (st : St) (K : Eff → Option R) : Option R :=
  let P := E.P
  let one (x : Operand) (k : C → Option R) : Option R := match (st.eval x).one? with
    | some c => k c
    | none => none
  let val (v : V) (r : List Nat := []) : Option R := K { v, s := st.o, r }
  match o.op with
  | .move x | .assign x => val (st.eval x)
  | .pick c a b => one c fun
    | .imm .bool c => val (if c = true then st.eval a else st.eval b)
    | _ => none
  | .alloc t => match zeroCs P t with
    | some cs => mkObj o.dst st.o (.box cs) (.bp · · 0) [] K
    | none => none
  | .box _ x => match st.eval x with
    | .one c => mkObj o.dst st.o (.box [c]) (.bp · · 0) [] K
    | .agg cs => mkObj o.dst st.o (.box cs) (.bp · · 0) [] K
    | _ => none
  | .build t parts => match zeroCs P t with
    | some cs => if buildable P t = true then
        match fillCs P (fieldsP P t) (parts.toList.map fun p => (p.1, st.eval p.2)) cs with
        | some ds => val (.agg ds)
        | none => none
      else none
    | none => none
  | .buildSlice t len parts =>
    match elemP P t with
    | none => none
    | some te => match E.elt o.dst te with
      | none => none
      | some e =>
        if parts.toList.map (·.1) = List.range len ∧ e.sz = szP P te ∧ e.sz ≠ 0 ∧ hasZero P te = true ∧ len * e.sz ≤ 16777216 then
          match prElems e (parts.toList.map fun p => (st.eval p.2).cells) st.o [] with
          | some q => mkObj o.dst q.s (.vec e q.x) .own q.m K
          | none => none
        else none
  | .load t x => if E.borrow (o.dst.getD 0) t = true ∧ deepEp (st.eval x) st.o = true then one x fun
      | .ep id ver i off => if okP P t = true ∧ isAggP P t = false ∧ szP P t = 1 then match st.o id with
          | (v, .vec e xs) => if v = ver then borrowK (newId o.dst) id v e xs i off st.o [] K else none
          | (v, .hvec e xs i' x' off' id' ver') => if v = ver ∧ id' ≠ id then match fillK st.o e xs i' x' off' id' ver' with
              | some (ys, s') => borrowK (newId o.dst) id v e ys i off s' [id'] K
              | none => none
            else none
          | _ => none
        else none
      | _ => none
    else one x fun c => cellsAt c st.o fun cs m =>
      if okP P t = true ∧ (cs.take (szP P t)).length = szP P t ∧ (isAggP P t = false → szP P t = 1) then val (V.ofCells (isAggP P t) (cs.take (szP P t))) m else none
  | .store t x y => one x fun c =>
      let vs := (st.eval y).cells
      if vs.length = szP P t ∧ vs.length ≠ 0 then
        match c with
        | .bp id ver off => match st.o id with
          | (v, .box cs) => if v = ver ∧ off + vs.length ≤ cs.length then K { v := .undef, s := st.o.set id (v, .box (setCs cs off vs)), w := [id] } else none
          | _ => none
        | .ep id ver i off => match st.o id with
          | (v, .vec e xs) =>
            if v = ver ∧ e.isImm = true then (xs[i]?).bind fun x =>
              if off + vs.length ≤ (ex e x).length then
                match pr false e (setCs (ex e x) off vs) st.o [] with
                | some { x := x', rest := [], s := s', m } => if m.contains id then none else K { v := .undef, s := s'.set id (v, .vec e (xs.set i x')), w := id :: m }
                | _ => none
              else none
            else if v = ver then (xs[i]?).bind fun x => match putAt e x off vs st.o with
              | some { x := x', rest := [], s := s', m } => if m.contains id then none else K { v := .undef, s := s'.set id (v, .vec e (xs.set i x')), w := id :: m }
              | _ => none
            else none
          | _ => none
        | _ => none
      else none
  | .nilCheck x => match st.eval x with
    | .one (.bp id v off) => if (st.o id).1 = v ∧ (st.o id).2.isB = true then val (.one (.bp id v off)) [id] else none
    | .one (.ep id v i off) => if (st.o id).1 = v ∧ (st.o id).2.isV = true then val (.one (.ep id v i off)) [id] else none
    | .one (.iptr τ x off) => val (.one (.iptr τ x off))
    | .one (.imm .tree x) => match x with
      | .nil => none
      | .mk op v l r kids => val (.one (.iptr (.agg nodeTy) (op, v, l, r, kids, ()) 0))
    | _ => none
  | .binOp op t x y _ => one x fun a => one y fun b => binC (isBoolT P t) op a b fun c => val (.one c)
  | .unOp op _ x => one x fun a => unC op a fun c => val (.one c)
  | .convert src dst x => one x fun a => match P.underlying src, P.underlying dst, a with
      | some _, some (.int k), .imm (.int _) n => val (.one (.imm (.int k) (k.wrap n)))
      | some _, some .string, .imm .str x => val (.one (.imm .str x))
      | some (.slice e), some .string, c => match P.underlying e with
        | some (.int .u8) => match c with
          | .e0 => val (.one (.imm .str []))
          | c => getSl c st.o fun
            | .int .u8, xs, m => val (.one (.imm .str (bytesStr xs))) m
            | _, _, _ => none
        | _ => none
      | _, _, _ => none
  | .makeFunc (.func g) first captured =>
    if first.size = 0 ∧ capsOk (E.caps g) = true then
      match prFs false (E.caps g) (captured.toList.map st.eval) st.o [] with
      | some p => K { v := .one (.imm (.fn g (E.caps g)) p.x), s := p.s, w := p.m }
      | none => none
    else none
  | .makeSlice t len cap => match elemP P t with
    | none => none
    | some te => match E.elt o.dst te, zeroCs P te, st.eval len, st.eval cap with
      | some e, some z, .one (.imm (.int .i64) n), .one (.imm (.int .i64) n') => match pr false e z st.o [] with
        | some { x, rest := [], s := _, m := [] } =>
          if e.sz = szP P te ∧ e.sz ≠ 0 ∧ bytesP P te ≠ 0 then
            if 0 ≤ (n : Int) ∧ bytesP P te * (n : Int) ≤ 140737488355328 ∧ (n : Int) = n' then
              mkObj o.dst st.o (.vec e (List.replicate (Int.toNat n) x)) .own [] K
            else none
          else none
        | _ => none
      | _, _, _, _ => none
  | .slice t x lo hi mx => match mx with
    | none => one x fun c => sliceK (P.underlying t) (szP P ((elemP P t).getD 0)) c (lo.map st.eval) (hi.map st.eval) st.o fun c m => val (.one c) m
    | some _ => none
  | .fieldAddr t x i => match (fieldsP P t)[i]? with
    | none => none
    | some f => if szP P f.type = 0 then none else one x fun
      | .bp id v off => if (st.o id).1 = v ∧ (st.o id).2.isB = true then val (.one (.bp id v (off + f.offset))) [id] else none
      | .ep id v i off => if (st.o id).1 = v ∧ (st.o id).2.isV = true then val (.one (.ep id v i (off + f.offset))) [id] else none
      | .iptr τ x off => val (.one (.iptr τ x (off + f.offset)))
      | _ => none
  | .field t x i => match (fieldsP P t)[i]?, st.eval x with
    | some f, .agg cs => if okP P f.type = true ∧ ((cs.drop f.offset).take (szP P f.type)).length = szP P f.type ∧ (isAggP P f.type = false → szP P f.type = 1) then val (V.ofCells (isAggP P f.type) ((cs.drop f.offset).take (szP P f.type))) else none
    | _, _ => none
  | .indexAddr t x i => one x fun c => one i fun
    | .imm (.int _) i => match elemP P t with
      | none => none
      | some te => if szP P te = 0 then none else match c with
        | .imm (.sl e) xs => if e.sz = szP P te then (idx xs i).bind fun x => val (.one (.iptr e x 0)) else none
        | .own id ver => match st.o id with
          | (v, .vec e xs) => if v = ver ∧ e.sz = szP P te then (if 0 ≤ (i : Int) ∧ (i : Int) < xs.length then val (.one (.ep id ver (Int.toNat i) 0)) [id] else none) else none
          | (v, .fvec e xs) => if v = ver ∧ e.sz = szP P te then (idx xs i).bind fun x => val (.one (.iptr e x 0)) [id] else none
          | (v, .hvec e xs _ _ _ _ _) => if v = ver ∧ e.sz = szP P te then (if 0 ≤ (i : Int) ∧ (i : Int) < xs.length then val (.one (.ep id ver (Int.toNat i) 0)) [id] else none) else none
          | _ => none
        | .sub id ver lo hi => match st.o id with
          | (v, .vec e _) => if v = ver ∧ e.sz = szP P te then (if 0 ≤ (i : Int) ∧ (i : Int) < (hi : Int) - lo then val (.one (.ep id ver (lo + Int.toNat i) 0)) [id] else none) else none
          | _ => none
        | _ => none
    | _ => none
  | .index t x i => one x fun
    | .imm .str s => one i fun
      | .imm (.int _) i => match P.underlying t with
        | some .string => (idx s i).bind fun b => val (.one (.imm (.int .u8) (b.toNat : Int)))
        | _ => none
      | _ => none
    | _ => none
  | .makeMap t r => match r with
    | none => match mapInt P t with
      | some e => match tyP P 20 e with
        | some τ => mkObj o.dst st.o (.mapo τ []) .mp [] K
        | none => none
      | none => none
    | some _ => none
  | .lookup t x i ok => one x fun c => one i fun d => match c, d with
    | .mp id ver, .imm (.int .i64) k => match st.o id, mapInt P t with
      | (v, .mapo τ xs), some e => match zeroCs P e with
        | some [.imm σ z] => if v = ver ∧ zeroOne P e = true then (if h : σ = τ then
            (if ok = true then val (.tup [(false, [.imm τ (mget xs k (castDen h z))]), (false, [.imm .bool (mhas xs k)])]) [id]
             else val (.one (.imm τ (mget xs k (castDen h z)))) [id])
            else none) else none
        | _ => none
      | _, _ => none
    | _, _ => none
  | .mapUpdate t x k y => one x fun c => one k fun d => one y fun u => match c, d, u with
    | .mp id ver, .imm (.int .i64) n, .imm σ z => match st.o id, mapInt P t with
      | (v, .mapo τ xs), some _ => if v = ver ∧ τ.isImm = true then (if h : σ = τ then K { v := .undef, s := st.o.set id (v, .mapo τ (mput xs n (castDen h z))), w := [id] } else none) else none
      | _, _ => none
    | _, _, _ => none
  | .extract x i => match st.eval x with
    | .tup vs => match vs[i]? with
      | some (a, cs) => val (V.ofCells a cs)
      | none => none
    | _ => none
  | .call ca => match ca.callee, ca.args.toList with
    | .builtin .len, [x] => one x fun c => lenC (ca.argTypes0 P) c st.o fun n m => val (.one (.imm (.int .i64) n)) m
    | .builtin .min, [x, y] => one x fun a => one y fun b => match a, b with
      | .imm (.int k) a, .imm (.int _) b => val (.one (.imm (.int k) (if (b : Int) < a then b else a)))
      | _, _ => none
    | .builtin .max, [x, y] => one x fun a => one y fun b => match a, b with
      | .imm (.int k) a, .imm (.int _) b => val (.one (.imm (.int k) (if (b : Int) > a then b else a)))
      | _, _ => none
    | .builtin .append, [x, y] => one x fun a => one y fun b => match ca.argTypes.toList with
      | [t, t'] => match deepOf b st.o with
        | some (id2, v2, ⟨e, ys⟩) => if t' = t then appendD P t (newId o.dst) a id2 v2 e ys st.o K else none
        | none => if (t' = t ∧ isStrC b = false) ∨ (isStrT P t' = true ∧ isStrC b = true) then appendK P t (newId o.dst) a b st.o K else none
      | _ => none
    | .value g, args => one g fun
      | .imm (.fn f caps) x => match E.clone f with
        | some t => match args with
          | [y] => one y fun c => if isE0 c = false ∧ isStrC c = false ∧ callable P f = true ∧ caps = .nil then appendK P t (newId o.dst) .e0 c st.o K else none
          | _ => none
        | none => if capsOk caps = true ∧ callable P f = true ∧ f < 65536 then callK E O (virt (f + 65536 * E.twin (o.dst.getD 0) f) (args.map st.eval)) (args.map st.eval ++ exFs caps x) st.o (newId o.dst) K else none
      | _ => none
    | _, _ => none
  | _ => none

/-! ### 8. A region -/
structure Info where
  d : Option Nat
  uses : List Nat
  w : List Nat
  r : List Nat

def Operand.tmps : List Operand → List Nat
  | [] => []
  | .tmp t :: r => t :: Operand.tmps r
  | _ :: r => Operand.tmps r

/-- Which operations an operation stands behind, through edges that bind whatever order is drawn. -/
def befores : List Oper → List Nat → List Nat
  | [], acc => acc
  | o :: r, acc => befores r (acc ++ [o.after.toList.foldl (fun s e => if Region.binds .any e then s ||| 2 ^ e.on ||| acc.getD e.on 0 else s) 0])

def apart (a b : Info) : Bool :=
  (match a.d with | some d => !b.uses.contains d && b.d != some d | none => true) &&
  (match b.d with | some d => !a.uses.contains d | none => true) &&
  a.w.all (fun i => !b.w.contains i && !b.r.contains i) && a.r.all (fun i => !b.w.contains i)

/-- Operations that no edge orders don't meet. -/
def commOk (bs : List Nat) (is : List Info) : Bool :=
  is.zipIdx.all fun (b, j) => is.zipIdx.all fun (a, i) => !(i < j) || (bs.getD j 0).testBit i || apart a b

/-- Edges that bind go back. -/
def backOk (ops : List Oper) : Bool := ops.zipIdx.all fun (o, j) => o.after.toList.all fun e => !Region.binds .any e || decide (e.on < j)

def guardTmp (all : Array Oper) (j : Nat) : Option Nat := (all[j]?).bind (·.dst)

def infoOf (all : Array Oper) (o : Oper) (e : Eff) : Info :=
  { d := o.dst, uses := (match o.guard with | some (j, _) => (guardTmp all j).toList | none => []) ++ Operand.tmps o.op.operands.toList, w := e.w, r := e.r }

def dstB (nt : Nat) (io : List Nat) : Option Nat → Bool
  | some d => d < nt && !io.contains d
  | none => true

/-- The operations of a region in their order. -/
def evOps (E : Env) (O : Oracle E) (all : Array Oper) (io : List Nat) (nt : Nat) : List Oper → St → List Info → (List Info → St → Option R) → Option R
  | [], st, acc, K => K acc.reverse st
  | o :: r, st, acc, K =>
    let go (st : St) : Option R :=
      if dstB nt io o.dst = true then
        exOp E O o st fun e => evOps E O all io nt r (st.app o.dst e) (infoOf all o e :: acc) K
      else none
    match o.guard with
    | none => go st
    | some (j, want) => match guardTmp all j with
      | none => none
      | some t => match st.t t with
        | .one (.imm .bool b) =>
          let skip (st : St) : Option R :=
            let e : Eff := { v := .tup [], s := st.o }
            if dstB nt io o.dst = true then evOps E O all io nt r (st.app o.dst e) (infoOf all o e :: acc) K else none
          if (b : Bool) = true then
            (if want then go (st.put t (.one (.imm .bool true))) else skip (st.put t (.one (.imm .bool true))))
          else
            (if want then skip (st.put t (.one (.imm .bool false))) else go (st.put t (.one (.imm .bool false))))
        | .tup [] =>
          if dstB nt io o.dst = true then evOps E O all io nt r (st.app o.dst { v := .tup [], s := st.o }) (infoOf all o { v := .tup [], s := st.o } :: acc) K else none
        | _ => none

/-! ### 9. Code -/
inductive Ex where
  | normal
  | exit (id : Nat)

/-- The values that a function's results are read off: temporaries, or variables in boxes. -/
def resVs (P : Program) (st : St) : List ResultVar → (List V → Option R) → Option R
  | [], K => K []
  | .tmp t :: r, K => resVs P st r fun vs => K (st.t t :: vs)
  | .cell a t :: r, K => match st.t a with
    | .one c => cellsAt c st.o fun cs _ =>
      if okP P t = true ∧ (cs.take (szP P t)).length = szP P t ∧ (isAggP P t = false → szP P t = 1) then
        resVs P st r fun vs => K (V.ofCells (isAggP P t) (cs.take (szP P t)) :: vs)
      else none
    | _ => none

def ioTmps : List Bool → Nat → List Nat
  | true :: r, i => i :: ioTmps r (i + 1)
  | false :: r, i => ioTmps r (i + 1)
  | [], _ => []

/-- What a function hands back: its results, and of its arguments what goes back. -/
def prRet (E : Env) (f : Nat) (res : List ResultVar) (st : St) : Option (E.Ret f) :=
  resVs E.P st res fun vs =>
  match prFs false (E.rs f) vs st.o [] with
  | some p => match prFs false (ioTy (E.io f) (E.ps f)) ((ioTmps (E.io f) 0).map st.t) p.s [] with
    | some q => some (p.x, q.x)
    | none => none
  | none => none

structure Fn (E : Env) where
  f : Nat
  nt : Nat
  res : List ResultVar

def ev (E : Env) (O : Oracle E) (F : Fn E) : Code → Nat → (R : Type) → (Ex → St → Option R) → (E.Ret F.f → Option R) → St → Option R
  | .skip, _, _, K, _, st => K .normal st
  | .region _ ops draw, _, _, K, _, st =>
    evOps E O ops (ioTmps (E.io F.f) 0) F.nt ops.toList st [] fun is st' =>
      if draw = false ∨ (backOk ops.toList && commOk (befores ops.toList []) is) = true then K .normal st' else none
  | .seq a b, p, R, K, KR, st => match E.hint F.f p with
    | .cut ts τ exits =>
      if exits = true then
        (ev E O F a (2 * p) (τ.den ⊕ R)
          (fun e st => match e with
            | .normal => (prSt ts τ st).map .inl
            | .exit i => (K (.exit i) st).map .inr)
          (fun r => (KR r).map .inr) st).bind fun
            | .inl x => ev E O F b (2 * p + 1) R K KR (stOf ts τ x)
            | .inr r => some r
      else
        (ev E O F a (2 * p) τ.den
          (fun e st => match e with
            | .normal => prSt ts τ st
            | .exit _ => none)
          (fun _ => none) st).bind fun x => ev E O F b (2 * p + 1) R K KR (stOf ts τ x)
    | _ => ev E O F a (2 * p) R (fun e st => match e with
        | .normal => ev E O F b (2 * p + 1) R K KR st
        | .exit i => K (.exit i) st) KR st
  | .cond c a b, p, R, K, KR, st => match st.eval c with
    | .one (.imm .bool t) => if (t : Bool) = true then ev E O F a (2 * p) R K KR st else ev E O F b (2 * p + 1) R K KR st
    | _ => none
  | .block id a, p, R, K, KR, st => ev E O F a (2 * p) R (fun e st => match e with
      | .normal => K .normal st
      | .exit i => if i = id then K .normal st else K (.exit i) st) KR st
  | .loop a, p, _, K, KR, st => match E.hint F.f p with
    | .loop h => match prSt h.ht h.hτ st with
      | none => none
      | some x => (O.L F.f h a x).bind fun
        | .inl y => K (.exit h.ex) (stOf h.ot h.oτ y)
        | .inr r => KR r
    | _ => none
  | .exit id, _, _, K, _, st => K (.exit id) st
  | .ret, _, _, _, KR, st => (prRet E F.f F.res st).bind KR
  | _, _, _, _, _, _ => none

/-! ### 10. One more level of calls and rounds; the limit -/
def fnOf (E : Env) (f : Nat) : Option (Fn E × Code) :=
  match E.P.funcs[rl f]? with
  | some fn => match fn.body with
    | some c => some ({ f := f, nt := fn.ntmps, res := fn.results.toList }, c)
    | none => none
  | none => none

def nFs : Ty → Nat
  | .cons _ r => nFs r + 1
  | _ => 0

def ioOk : List Bool → Ty → Bool
  | [], .nil => true
  | _ :: io, .cons _ r => ioOk io r
  | _, _ => false

def evFn (E : Env) (O : Oracle E) (f : Nat) (x : (E.ps f).den) : Option (E.Ret f) :=
  match E.ext f with
  | some g => g x
  | none => match fnOf E f with
    | some (F, c) =>
      if h : F.f = f ∧ ioOk (E.io f) (E.ps f) = true ∧ nFs (E.ps f) ≤ F.nt then
        ev E O F c 1 (E.Ret f) (fun e st => match e with
          | .normal => (prRet E F.f F.res st).bind fun r => some (h.1 ▸ r)
          | .exit _ => none) (fun r => some (h.1 ▸ r)) (stOf (List.range (nFs (E.ps f))) (E.ps f) x)
      else none
    | none => none

def evLoop (E : Env) (O : Oracle E) (f : Nat) (h : LoopH) (c : Code) (x : h.hτ.den) : Option (h.oτ.den ⊕ E.Ret f) :=
  match fnOf E f with
  | some (F, _) =>
    if e : F.f = f then
      ev E O F c h.key (h.oτ.den ⊕ E.Ret f)
        (fun i st => match i with
          | .normal => (prSt h.ht h.hτ st).bind fun x => O.L f h c x
          | .exit i => if i = h.ex then (prSt h.ot h.oτ st).bind fun y => some (.inl y) else none)
        (fun r => some (.inr (e ▸ r))) (stOf h.ht h.hτ x)
    else none
  | none => none

def Φ (E : Env) (O : Oracle E) : Oracle E := { C := evFn E O, L := evLoop E O }

def On (E : Env) : Nat → Oracle E
  | 0 => { C := fun _ _ => none, L := fun _ _ _ _ => none }
  | n + 1 => Φ E (On E n)

end
end Go.Proofs.YtofkhmedmeihiaaPn.Ev
