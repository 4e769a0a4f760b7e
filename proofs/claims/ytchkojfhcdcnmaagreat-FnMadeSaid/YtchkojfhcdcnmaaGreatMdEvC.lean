/- Texts laid together: EvA, EvB, EvC; no condition but those that each theorem names. -/
import Derived.Orders
import Derived.Eval
import Derived.Laws.Sem
import Derived.Laws.AppendOwn
import Derived.Maps.RangeRun
namespace Go.Proofs.YtchkojfhcdcnmaaGreatMd.Ev
theorem e0x:((0:Nat):Int)=0:=rfl
theorem qa:type_of% @Option.bind_some:= @Option.bind_some
theorem qb:type_of% @if_pos:= @if_pos
theorem qc:type_of% @if_neg:= @if_neg
theorem qd:type_of% @Sum.elim_inl:= @Sum.elim_inl
theorem qe:type_of% @if_false:= @if_false
theorem qf:type_of% @if_true:= @if_true
theorem qg:type_of% @Bool.false_eq_true:= @Bool.false_eq_true
theorem qh:type_of% @Option.some.inj:= @Option.some.inj
theorem qi:type_of% @List.getElem_mem:= @List.getElem_mem
theorem qj:type_of% @List.drop_eq_getElem_cons:= @List.drop_eq_getElem_cons
theorem qk:type_of% @List.drop_zero:= @List.drop_zero
theorem ql:type_of% @Nat.le_refl:= @Nat.le_refl
theorem qm:type_of% @Bool.not_true:= @Bool.not_true
theorem qn:type_of% @List.mem_cons_of_mem:= @List.mem_cons_of_mem
theorem qo:type_of% @Int.toNat_natCast:= @Int.toNat_natCast
theorem qp:type_of% @decide_eq_true:= @decide_eq_true
theorem qq:type_of% @Bool.and_eq_true:= @Bool.and_eq_true
theorem qr:type_of% @List.mem_append:= @List.mem_append
theorem qt:type_of% @decide_eq_true_eq:= @decide_eq_true_eq
theorem qu:type_of% @List.getElem?_eq_getElem:= @List.getElem?_eq_getElem
theorem qv:type_of% @List.mem_cons_self:= @List.mem_cons_self
theorem qw:type_of% @List.mem_append_left:= @List.mem_append_left
theorem qz:type_of% @List.mem_cons:= @List.mem_cons
theorem qA:type_of% @decide_eq_false:= @decide_eq_false
theorem qB:type_of% @List.mem_append_right:= @List.mem_append_right
theorem qC:type_of% @List.nil_append:= @List.nil_append
theorem qD:type_of% @List.length_cons:= @List.length_cons
theorem qE:type_of% @List.append_assoc:= @List.append_assoc
theorem qF:type_of% @Sum.elim_inr:= @Sum.elim_inr
theorem qG:type_of% @List.drop_length:= @List.drop_length
theorem qH:type_of% @List.mem_iff_getElem:= @List.mem_iff_getElem
theorem qI:type_of% @Option.some.injEq:= @Option.some.injEq
theorem qJ:type_of% @Nat.zero_add:= @Nat.zero_add
theorem qK:type_of% @List.map_cons:= @List.map_cons
theorem qL:type_of% @List.length_append:= @List.length_append
theorem qM:type_of% @List.mem_singleton:= @List.mem_singleton
theorem qN:type_of% @List.nodup_append:= @List.nodup_append
theorem qO:type_of% @Bool.not_false:= @Bool.not_false
theorem qP:type_of% @List.append_nil:= @List.append_nil
theorem qQ:type_of% @List.mem_map:= @List.mem_map
theorem qR:type_of% @List.all_cons:= @List.all_cons
theorem qS:type_of% @Option.bind_eq_some_iff:= @Option.bind_eq_some_iff
theorem qT:type_of% @List.length_nil:= @List.length_nil
theorem qU:type_of% @Prod.mk.injEq:= @Prod.mk.injEq
theorem qV:type_of% @List.length_map:= @List.length_map
theorem qW:type_of% @List.getElem?_eq_some_iff:= @List.getElem?_eq_some_iff
theorem qX:type_of% @List.length_pos_iff:= @List.length_pos_iff
theorem qY:type_of% @Option.map_some:= @Option.map_some
theorem qZ:type_of% @List.cons_append:= @List.cons_append
theorem wa:type_of% @List.take_append_drop:= @List.take_append_drop
theorem wb:type_of% @Bool.or_eq_true:= @Bool.or_eq_true
theorem wc:type_of% @beq_self_eq_true:= @beq_self_eq_true
theorem wd:type_of% @List.length_eq_zero_iff:= @List.length_eq_zero_iff
theorem we:type_of% @Option.bind_assoc:= @Option.bind_assoc
open Go
noncomputable section
inductive Ty where
 | bool | int (k:IntKind) | str
 | sl (e:Ty) | own (e:Ty)
 | agg (fs:Ty) | nil | cons (a r:Ty)
 | ptr (e:Ty) | box (e:Ty)
 | fn (f:Nat) (caps:Ty)
 | tree
 | unk | map (v:Ty)
 | mv (e:Ty)
 | opq
 | imap (v:Ty)
 | iter (v:Ty)
 | optr (e:Ty)
 | sb (T te:Nat)
 deriving DecidableEq,Inhabited
inductive Tree where
 | nil
 | mk (op v:Int) (l r:List Int) (kids:List Tree)
 deriving Inhabited
@[reducible] def Ty.den : Ty -> Type
 | .bool=>Bool
 | .int _=>Int
 | .str=>List UInt8
 | .sl e=>List e.den
 | .own e=>List e.den
 | .agg fs=>fs.den
 | .nil=>Unit
 | .cons a r=>a.den×r.den
 | .ptr e=>e.den
 | .box e=>e.den
 | .fn _ caps=>caps.den
 | .tree=>Tree
 | .unk=>Unit
 | .map v=>List (Int×v.den)
 | .imap v=>List (Int×v.den)
 | .iter v=>Option (Int×v.den)×List (Int×v.den)
 | .optr e=>Option e.den
 | .sb _ _=>List UInt8
 | .mv e=>Option (Bool×List e.den)
 | .opq=>Value
def Ty.sz:Ty->Nat
 | .agg fs=>fs.sz
 | .nil=>0
 | .cons a r=>a.sz+r.sz
 | _=>1
def Ty.isImm:Ty->Bool
 | .own _ | .box _ | .map _ | .mv _ | .iter _ | .sb _ _=>false
 | .sl e=>e.isImm
 | .imap e=>e.isImm
 | .optr e=>e.isImm
 | .agg fs=>fs.isImm
 | .cons a r=>a.isImm&&r.isImm
 | .ptr e=>e.isImm
 | .fn _ caps=>caps.isImm
 | _=>true
def Ty.flat:Ty->Bool
 | .own e=>e.flat
 | .agg fs=>fs.flat
 | .cons a r=>a.flat&&r.flat
 | .map v=>v.flat
 | .bool | .int _ | .str | .nil | .unk | .opq=>true
 | _=>false
def Ty.isAgg:Ty->Bool
 | .agg _=>true
 | _=>false
@[reducible] def immOf : Ty -> Ty
 | .own e=> .sl (immOf e)
 | .agg fs=> .agg (immOf fs)
 | .cons a r=> .cons (immOf a) (immOf r)
 | τ=>τ
theorem zkX: ∀τ:Ty,(immOf τ).den=τ.den
 | .own e=>congrArg List (zkX e)
 | .agg fs=>zkX fs
 | .cons a r=>by show ((immOf a).den×(immOf r).den)=(a.den×r.den);rw [zkX a,zkX r]
 | .bool | .int _ | .str | .sl _ | .nil | .ptr _ | .box _ | .fn _ _ | .tree | .unk | .map _ | .mv _ | .opq | .imap _ | .iter _ | .optr _ | .sb _ _=>rfl
def toImm (τ:Ty) (x:τ.den):(immOf τ).den:=cast (zkX τ).symm x
inductive C where
 | imm (τ:Ty) (x:τ.den)
 | iptr (τ:Ty) (x:τ.den) (off:Nat)
 | e0
 | nilp
 | own (id ver:Nat)
 | sub (id ver lo hi:Nat)
 | bp (id ver off:Nat)
 | ep (id ver i off:Nat)
 | mp (id ver:Nat)
inductive V where
 | one (c:C)
 | agg (cs:List C)
 | tup (vs:List (Bool×List C))
 | undef
def V.cells:V->List C
 | .one c=> [c]
 | .agg cs=>cs
 | _=> []
def V.ofCells (agg:Bool) (cs:List C):V:=
 if agg then .agg cs else match cs with
  | [c]=> .one c
  | _=> .undef
inductive Obj where
 | dead
 | vec (e:Ty) (xs:List e.den)
 | fvec (e:Ty) (xs:List e.den)
 | lvec (e:Ty) (xs:List e.den)
 | ovec (e:Ty) (xs:List e.den)
 | hvec (e:Ty) (xs:List e.den) (i:Nat) (x:e.den) (off id ver:Nat)
 | box (cs:List C)
 | fbox (τ:Ty) (x:τ.den)
 | obox
 | mapo (v:Ty) (xs:List (Int×v.den))
 | omap
 | itero (v:Ty) (x:Option (Int×v.den)×List (Int×v.den))
 | sbo (T te:Nat) (xs:List UInt8)
def Obj.isV:Obj->Bool
 | .vec _ _ | .fvec _ _ | .lvec _ _ | .ovec _ _ | .hvec _ _ _ _ _ _ _=>true
 | _=>false
def Obj.isB:Obj->Bool
 | .box _ | .fbox _ _ | .obox | .mapo _ _ | .omap | .itero _ _ | .sbo _ _ _=>true
 | _=>false
def Obj.isL:Obj->Bool
 | .lvec _ _=>true
 | _=>false
abbrev Sto:=Nat->Nat×Obj
def Sto.set (s:Sto) (id:Nat) (e:Nat×Obj):Sto:=fun i=>if i=id then e else s i
structure St where
 t:Nat->V
 o:Sto
def St.put (st:St) (d:Nat) (v:V):St:= {st with t:=fun i=>if i=d then v else st.t i}
def ex:(τ:Ty)->τ.den->List C
 | .agg fs,x=>ex fs x
 | .nil,_=> []
 | .cons a r,x=>ex a x.1++ex r x.2
 | .ptr e,x=> [.iptr e x 0]
 | τ,x=> [.imm τ x]
def takeO {α:Type} (xs:List (Option (Bool×List α))) (i:Nat):Option (List α):=match xs[i]? with
 | some (some (true,ys))=>some ys
 | _=>none
def seeO {α:Type} (xs:List (Option (Bool×List α))) (i:Nat):Option (List α):=match xs[i]? with
 | some (some (false,ys))=>some ys
 | _=>none
def allOw {α:Type}:List (Option (Bool×List α))->Bool
 | []=>true
 | some (true,_)::r=>allOw r
 | _::_=>false
def forceL {α:Type} (xs:List (Option (Bool×List α))):List (List α):=xs.map fun
 | some (_,ys)=>ys
 | none=> []
def mins {α:Type} (p:Int×α):List (Int×α)->List (Int×α)
 | []=> [p]
 | q::r=>if p.1<=q.1 then p::q::r else q::mins p r
def msort {α:Type}:List (Int×α)->List (Int×α)
 | []=> []
 | p::r=>mins p (msort r)
structure Inj (α:Type) where
 cs:α
 s:Sto
 b:Nat
 ids:List Nat
def inj:(τ:Ty)->τ.den->Sto->Nat->Inj (List C)
 | .agg fs,x,s,b=>inj fs x s b
 | .nil,_,s,b=> {cs:= [],s,b,ids:= []}
 | .cons a r,x,s,b=>
  let p:=inj a x.1 s b
  let q:=inj r x.2 p.s p.b
  {cs:=p.cs++q.cs,s:=q.s,b:=q.b,ids:=p.ids++q.ids}
 | .own e,x,s,b=> {cs:= [.own b ((s b).1+1)],s:=s.set b ((s b).1+1,.vec e x),b:=b+1,ids:= [b]}
 | .box e,x,s,b=>
  let p:=inj e x s (b+1)
  {cs:= [.bp b ((p.s b).1+1) 0],s:=p.s.set b ((p.s b).1+1,.box p.cs),b:=p.b,ids:=b::p.ids}
 | .ptr e,x,s,b=> {cs:= [.iptr e x 0],s,b,ids:= []}
 | .mv e,x,s,b=>match x with
  | some (true,ys)=> {cs:= [.own b ((s b).1+1)],s:=s.set b ((s b).1+1,.vec e ys),b:=b+1,ids:= [b]}
  | some (false,ys)=> {cs:= [.imm (.sl e) ys],s,b,ids:= []}
  | none=> {cs:= [.imm .unk ()],s,b,ids:= []}
 | .iter e,x,s,b=> {cs:= [.mp b ((s b).1+1)],s:=s.set b ((s b).1+1,.itero e x),b:=b+1,ids:= [b]}
 | .sb T te,x,s,b=> {cs:= [.mp b ((s b).1+1)],s:=s.set b ((s b).1+1,.sbo T te x),b:=b+1,ids:= [b]}
 | .map e,x,s,b=> {cs:= [.mp b ((s b).1+1)],s:=s.set b ((s b).1+1,.mapo e x),b:=b+1,ids:= [b]}
 | τ,x,s,b=> {cs:= [.imm τ x],s,b,ids:= []}
structure Pr (α:Type) where
 x:α
 rest:List C
 s:Sto
 m:List Nat
def castDen {σ τ:Ty} (h:σ=τ) (x:σ.den):τ.den:=h▸x
def coe:(e' e:Ty)->List e'.den->Option (List e.den)
 | .own a,.mv b,xs=>if h:Ty.own a= .own b then some (xs.map fun x=>some (true,castDen (σ:= .own a) (τ:= .own b) h x)) else none
 | .sl a,.mv b,xs=>if h:Ty.sl a= .sl b then some (xs.map fun x=>some (false,castDen (σ:= .sl a) (τ:= .sl b) h x)) else none
 | _,_,_=>none
def nodeTy:Ty:= .cons (.int .i64) (.cons (.int .i64) (.cons (.sl (.int .i64)) (.cons (.sl (.int .i64)) (.cons (.sl .tree) .nil))))
def nodeTree (x:nodeTy.den):Tree:= .mk x.1 x.2.1 x.2.2.1 x.2.2.2.1 x.2.2.2.2.1
def prSl (lend:Bool) (e:Ty) (c:C) (s:Sto):Option (List e.den×Sto×List Nat):=
 match c with
 | .imm σ x=>if h:σ= .sl e then some (castDen h x,s,[]) else none
 | .e0=>some ([],s,[])
 | .own id ver=>match s id with
  | (v,.vec e' xs)=>if v=ver∧(immOf e').isImm=true then if h:Ty.sl (immOf e')= .sl e then some (castDen h (toImm (.own e') xs),s.set id (v,if lend then .lvec e' xs else .fvec (immOf e') (toImm (.own e') xs)),[id]) else none else none
  | (v,.fvec e' xs)=>if v=ver then if h:Ty.sl e'= .sl e then some (castDen h xs,s,[id]) else none else none
  | (v,.lvec e' xs)=>if v=ver∧lend=true∧(immOf e').isImm=true then if h:Ty.sl (immOf e')= .sl e then some (castDen h (toImm (.own e') xs),s,[id]) else none else none
  | _=>none
 | .sub id ver lo hi=>match s id with
  | (v,.vec e' xs)=>if v=ver∧(immOf e').isImm=true then if h:Ty.sl (immOf e')= .sl e then some (castDen h (((toImm (.own e') xs:List (immOf e').den).take hi).drop lo),s.set id (v,if lend then .lvec e' xs else .fvec (immOf e') (toImm (.own e') xs)),[id]) else none else none
  | (v,.fvec e' xs)=>if v=ver then if h:Ty.sl e'= .sl e then some (castDen h ((xs.take hi).drop lo),s,[id]) else none else none
  | (v,.lvec e' xs)=>if v=ver∧lend=true∧(immOf e').isImm=true then if h:Ty.sl (immOf e')= .sl e then some (castDen h (((toImm (.own e') xs:List (immOf e').den).take hi).drop lo),s,[id]) else none else none
  | _=>none
 | _=>none
def prNode (ds:List C) (s:Sto):Option (nodeTy.den×Sto×List Nat):=
 match ds with
 | [.imm (.int .i64) op,.imm (.int .i64) v,c,d,k]=>match prSl false (.int .i64) c s with
  | some (l,s1,m1)=>match prSl false (.int .i64) d s1 with
   | some (r,s2,m2)=>match prSl false .tree k s2 with
    | some (kids,s3,m3)=>some ((op,v,l,r,kids,()),s3,m3++(m2++(m1++ [])))
    | none=>none
   | none=>none
  | none=>none
 | _=>none
def getAt:(e:Ty)->e.den->Nat->Option (Sigma fun σ:Ty=>List σ.den)
 | .own σ,x,n=>match n with
  | 0=>some ⟨σ,x⟩
  | _=>none
 | .agg fs,x,n=>getAt fs x n
 | .cons a r,x,n=>if n<a.sz then getAt a x.1 n else getAt r x.2 (n-a.sz)
 | _,_,_=>none
def setAt:(e:Ty)->e.den->Nat->(σ:Ty)->List σ.den->Option e.den
 | .own τ,_,n,σ,y=>match n with
  | 0=>if h:Ty.own σ= .own τ then some (castDen h y) else none
  | _=>none
 | .agg fs,x,n,σ,y=>setAt fs x n σ y
 | .cons a r,x,n,σ,y=>
  if n<a.sz then match setAt a x.1 n σ y with
   | some z=>some (z,x.2)
   | none=>none
  else match setAt r x.2 (n-a.sz) σ y with
   | some z=>some (x.1,z)
   | none=>none
 | _,_,_,_,_=>none
def fillK (s:Sto) (e:Ty) (xs:List e.den) (i:Nat) (x:e.den) (off id' ver':Nat):Option (List e.den×Sto):=
 match s id' with
 | (v,.vec σ ys)=>if v=ver' then match setAt e x off σ ys with
   | some x'=>some (xs.set i x',s.set id' (v,.ovec σ ys))
   | none=>none
  else none
 | _=>none
def pr (lend:Bool):(τ:Ty)->List C->Sto->List Nat->Option (Pr τ.den)
 | .agg fs,cs,s,m=>pr lend fs cs s m
 | .nil,cs,s,m=>some {x:=(),rest:=cs,s,m}
 | .cons a r,cs,s,m=>
  match pr lend a cs s m with
  | none=>none
  | some p=>match pr lend r p.rest p.s p.m with
   | none=>none
   | some q=>some {x:=(p.x,q.x),rest:=q.rest,s:=q.s,m:=q.m}
 | .sl e,cs,s,m=>match cs with
  | c::r=>match prSl lend e c s with
   | some (x,s',m')=>some {x,rest:=r,s:=s',m:=m'++m}
   | none=>none
  | _=>none
 | .own e,cs,s,m=>match cs with
  | .e0::r=>some {x:= [],rest:=r,s,m}
  | .own id ver::r=>match s id with
   | (v,.vec e' xs)=>if v=ver then if h:Ty.own e'= .own e then some {x:=castDen h xs,rest:=r,s:=s.set id (v,.ovec e' xs),m:=id::m} else match coe e' e xs with
     | some ys=>some {x:=ys,rest:=r,s:=s.set id (v,.ovec e' xs),m:=id::m}
     | none=>none
    else none
   | (v,.hvec e' xs i y off id' ver')=>if v=ver∧id'≠id then match fillK s e' xs i y off id' ver' with
     | some (ys,s')=>if h:Ty.own e'= .own e then some {x:=castDen h ys,rest:=r,s:=s'.set id (v,.ovec e' ys),m:=id::id'::m} else none
     | none=>none
    else none
   | _=>none
  | _=>none
 | .ptr e,cs,s,m=>match cs with
  | .iptr σ x 0::r=>if h:Ty.ptr σ= .ptr e then some {x:=castDen h x,rest:=r,s,m} else none
  | .bp id ver 0::r=>match s id with
   | (v,.box ds)=>
    if v=ver∧e.isImm=true then match pr false e ds s [] with
     | some {x,rest:= [],s:=s',m:=m'}=>if m'.contains id=true then none else some {x,rest:=r,s:=s'.set id (v,.fbox e x),m:=id::(m'++m)}
     | _=>none
    else none
   | (v,.fbox σ x)=>if v=ver then if h:Ty.ptr σ= .ptr e then some {x:=castDen h x,rest:=r,s,m:=id::m} else none else none
   | _=>none
  | _=>none
 | .optr e,cs,s,m=>match cs with
  | .imm σ x::r=>if h:σ= .optr e then some {x:=castDen h x,rest:=r,s,m} else none
  | .nilp::r=>some {x:=none,rest:=r,s,m}
  | .bp id ver 0::r=>match s id with
   | (v,.box ds)=>
    if v=ver∧e.isImm=true then match pr false e ds s [] with
     | some {x,rest:= [],s:=s',m:=m'}=>if m'.contains id=true then none else some {x:=some x,rest:=r,s:=s'.set id (v,.fbox e x),m:=id::(m'++m)}
     | _=>none
    else none
   | _=>none
  | _=>none
 | .box e,cs,s,m=>match cs with
  | .bp id ver 0::r=>match s id with
   | (v,.box ds)=>if v=ver then match pr false e ds s [] with
    | some {x,rest:= [],s:=s',m:=m'}=>if m'.contains id=true then none else some {x,rest:=r,s:=s'.set id (v,.obox),m:=id::(m'++m)}
    | _=>none
    else none
   | _=>none
  | _=>none
 | .tree,cs,s,m=>match cs with
  | .imm σ x::r=>if h:σ= .tree then some {x:=castDen h x,rest:=r,s,m} else none
  | .nilp::r=>some {x:= .nil,rest:=r,s,m}
  | .bp id ver 0::r=>match s id with
   | (v,.box ds)=>if v=ver then match prNode ds s with
    | some (x,s',m')=>if m'.contains id=true then none else some {x:=nodeTree x,rest:=r,s:=s'.set id (v,.fbox (.agg nodeTy) x),m:=id::(m'++m)}
    | none=>none
    else none
   | (v,.fbox σ x)=>if v=ver then if h:σ= .agg nodeTy then some {x:=nodeTree (castDen (τ:= .agg nodeTy) h x),rest:=r,s,m:=id::m} else none else none
   | _=>none
  | .iptr σ x 0::r=>if h:σ= .agg nodeTy then some {x:=nodeTree (castDen (τ:= .agg nodeTy) h x),rest:=r,s,m} else none
  | _=>none
 | .mv e,cs,s,m=>match cs with
  | .e0::r=>some {x:=some (true,[]),rest:=r,s,m}
  | .own id ver::r=>match s id with
   | (v,.vec e' xs)=>if v=ver then if h:Ty.own e'= .own e then some {x:=some (true,castDen (σ:= .own e') (τ:= .own e) h xs),rest:=r,s:=s.set id (v,.ovec e' xs),m:=id::m} else none else none
   | _=>none
  | .imm σ x::r=>if h:σ= .sl e then some {x:=some (false,castDen h x),rest:=r,s,m} else none
  | _=>none
 | .unk,cs,s,m=>match cs with
  | _::r=>some {x:=(),rest:=r,s,m}
  | _=>none
 | .map e,cs,s,m=>match cs with
  | .mp id ver::r=>match s id with
   | (v,.mapo e' xs)=>if v=ver then if h:Ty.map e'= .map e then some {x:=castDen (σ:= .map e') (τ:= .map e) h xs,rest:=r,s:=s.set id (v,.omap),m:=id::m} else none else none
   | _=>none
  | _=>none
 | .iter e,cs,s,m=>match cs with
  | .mp id ver::r=>match s id with
   | (v,.itero e' x)=>if v=ver then if h:Ty.iter e'= .iter e then some {x:=castDen (σ:= .iter e') (τ:= .iter e) h x,rest:=r,s:=s.set id (v,.obox),m:=id::m} else none else none
   | _=>none
  | _=>none
 | .sb T te,cs,s,m=>match cs with
  | .mp id ver::r=>match s id with
   | (v,.sbo T' te' x)=>if v=ver∧T'=T∧te'=te then some {x:=x,rest:=r,s:=s.set id (v,.obox),m:=id::m} else none
   | _=>none
  | _=>none
 | .imap e,cs,s,m=>match cs with
  | .imm σ x::r=>if h:σ= .imap e then some {x:=castDen h x,rest:=r,s,m} else none
  | .mp id ver::r=>match s id with
   | (v,.mapo e' xs)=>if v=ver∧e'.isImm=true then if h:Ty.imap e'= .imap e then some {x:=castDen (σ:= .imap e') (τ:= .imap e) h (msort xs),rest:=r,s:=s.set id (v,.omap),m:=id::m} else none else none
   | _=>none
  | _=>none
 | τ,cs,s,m=>match cs with
  | .imm σ x::r=>if h:σ=τ then some {x:=castDen h x,rest:=r,s,m} else none
  | _=>none
section tables
variable (P : Program)
def szP (t:TypeId):Nat:=((P.info? t).map (·.size)).getD 0
def bytesP (t:TypeId):Nat:=((P.info? t).map (·.bytes)).getD 0
def isAggP (t:TypeId):Bool:=match P.underlying t with
 | some (.struct _) | some (.array _ _)=>true
 | _=>false
def elemP (t:TypeId):Option TypeId:=match P.underlying t with
 | some (.slice e)=>some e
 | _=>none
def fieldsP (t:TypeId):List Field:=match P.underlying t with
 | some (.struct fs)=>fs.toList
 | _=> []
def tyFs (rec:TypeId->Option Ty):List Field->Option Ty
 | []=>some .nil
 | f::r=>match rec f.type,tyFs rec r with
  | some a,some b=>some (.cons a b)
  | _,_=>none
def tyP:Nat->TypeId->Option Ty
 | 0,_=>none
 | n+1,t=>match P.underlying t with
  | some .bool=>some .bool
  | some (.int k)=>some (.int k)
  | some .string=>some .str
  | some (.pointer _)=>some .tree
  | some (.slice e)=>match tyP n e with
   | some a=>some (.sl a)
   | none=>none
  | some (.struct fs)=>match tyFs (tyP n) fs.toList with
   | some a=>some (.agg a)
   | none=>none
  | _=>none
end tables
def constC:Value->Option C
 | .bool b=>some (.imm .bool b)
 | .int k n=>some (.imm (.int k) n)
 | .string s=>some (.imm .str s.data.toList)
 | .slice none 0 0=>some .e0
 | .pointer none=>some .nilp
 | .map none=>some (.imm .unk ())
 | _=>none
def constCs:List Value->Option (List C)
 | []=>some []
 | v::r=>match constC v,constCs r with
  | some c,some cs=>some (c::cs)
  | _,_=>none
def ofC:Option C->V
 | some c=> .one c
 | none=> .undef
def constV:Value->V
 | .agg cs=>match constCs cs.toList with
  | some l=> .agg l
  | none=> .undef
 | v=>ofC (constC v)
def zeroOne (P:Program) (t:TypeId):Bool:=
 match (P.info? t).bind (·.zero) with
 | some (.agg _) | some (.tuple _)=>false
 | some _=>true
 | none=>false
def isSbZ:Option Value->Bool
 | some (.agg ⟨[.pointer none,.slice none 0 0]⟩)=>true
 | _=>false
def zeroCs (P:Program) (t:TypeId):Option (List C):=
 match (P.info? t).bind (·.zero) with
 | some z=>constCs z.cells.toList
 | none=>none
end
noncomputable section
structure LoopH where
 key:Nat
 ht:List Nat
 hτ:Ty
 ex:Nat
 ot:List Nat
 oτ:Ty
 hal:List (Nat×Nat):= []
 oal:List (Nat×Nat):= []
inductive Hint where
 | none
 | cut (ts:List Nat) (τ:Ty) (exits:Bool) (al:List (Nat×Nat))
 | loop (h:LoopH)
 | force (t:Nat)
 | pick
def ioTy:List Bool->Ty->Ty
 | true::io,.cons a r=> .cons a (ioTy io r)
 | false::io,.cons _ r=>ioTy io r
 | _,_=> .nil
structure Env where
 P:Program
 ps:Nat->Ty
 io:Nat->List Bool
 rs:Nat->Ty
 caps:Nat->Ty
 hint:Nat->Nat->Hint
 ext:(f:Nat)->Option ((ps f).den->Option ((rs f).den×(ioTy (io f) (ps f)).den))
 clone:Nat->Option TypeId
 grow:Nat->Option TypeId
 deep:Nat->TypeId->Option Ty
 borrow:Nat->TypeId->Bool
 twin:Nat->Nat->Nat
 tab:List (Nat×Array Value):= []
 sbt:Nat->Option Nat:=fun _=>none
 hid:Nat->Nat->Option Nat:=fun _ _=>none
 twif:Nat->Nat->Nat:=fun _ _=>0
def Env.tabs (E:Env) (w:World) (N:Nat->Prop):Prop:= ∀p∈E.tab,N p.1∧ ∃t f,w.heap[p.1]?=some (.cells p.2 t f)
theorem Env.tabs_mono {E:Env} {w:World} {N N':Nat->Prop} (h:E.tabs w N) (hs: ∀k,N k->N' k):E.tabs w N':=fun p hp=>⟨hs _ (h p hp).1,(h p hp).2⟩
theorem Env.tabs_nil {E:Env} (h:E.tab= []) (w:World) (N:Nat->Prop):E.tabs w N:=fun p hp=>by rw [h] at hp;cases hp
def Env.elt (E:Env) (d:Option Nat) (te:TypeId):Option Ty:=match E.deep (d.getD 0) te with
 | some e=>some e
 | none=>tyP E.P 20 te
@[reducible] def Env.Ret (E : Env) (f : Nat) : Type := (E.rs f).den × (ioTy (E.io f) (E.ps f)).den
abbrev HOr (E:Env):=(f:Nat)->(E.ps f).den->Option (E.Ret f)
def noH (E:Env):HOr E:=fun _ _=>none
structure Oracle (E:Env) where
 C:(f:Nat)->(E.ps f).den->Option (E.Ret f)
 L:(f:Nat)->(h:LoopH)->Code->h.hτ.den->Option (h.oτ.den⊕E.Ret f)
 H:HOr E:=noH E
def V.fits:V->Ty->Bool
 | .one _,a=> !a.isAgg&&a.sz==1
 | .agg _,a=>a.isAgg
 | _,_=>false
def prFs (lend:Bool):(τs:Ty)->List V->Sto->List Nat->Option (Pr τs.den)
 | .nil,[],s,m=>some {x:=(),rest:= [],s,m}
 | .cons a r,v::vs,s,m=>
  if v.fits a=true then
   match pr lend a v.cells s m with
   | some {x,rest:= [],s:=s1,m:=m1}=>match prFs lend r vs s1 m1 with
    | some q=>some {x:=(x,q.x),rest:= [],s:=q.s,m:=q.m}
    | none=>none
   | _=>none
  else none
 | _,_,_,_=>none
def injFs:(τs:Ty)->τs.den->Sto->Nat->Inj (List V)
 | .cons a r,x,s,b=>
  let p:=inj a x.1 s b
  let q:=injFs r x.2 p.s p.b
  {cs:=V.ofCells a.isAgg p.cs::q.cs,s:=q.s,b:=q.b,ids:=p.ids++q.ids}
 | _,_,s,b=> {cs:= [],s,b,ids:= []}
def laid:List Nat->List V->Nat->V
 | t::ts,v::vs,i=>if i=t then v else laid ts vs i
 | _,_,_=> .undef
def sto0:Sto:=fun _=>(0,.dead)
def stOf (ts:List Nat) (τ:Ty) (x:τ.den):St:=
 let p:=injFs τ x sto0 1000000
 {t:=laid ts p.cs,o:=p.s}
def prSt (ts:List Nat) (τ:Ty) (st:St):Option τ.den:=
 match prFs false τ (ts.map st.t) st.o [] with
 | some q=>some q.x
 | none=>none
def cellOf (st:St) (b off:Nat):Option C:=match st.t b with
 | .one (.bp id ver 0)=>match st.o id with
  | (w,.box cs)=>if w=ver then cs[off]? else none
  | _=>none
 | _=>none
def alOK (al:List (Nat×Nat)) (st:St):Bool:=al.all fun p=>
 if p.2<65536 then match st.t p.1,st.t p.2 with
  | .one (.own i v),.one (.own j u)=>i==j&&(v==u&&((st.o i).1==v&&(st.o i).2.isV))
  | _,_=>false
 else match st.t p.1,cellOf st (p.2 % 65536) (p.2 / 65536-1) with
  | .one (.own i v),some (.own j u)=>i==j&&(v==u&&((st.o i).1==v&&(st.o i).2.isV))
  | _,_=>false
def stOfA (ts:List Nat) (al:List (Nat×Nat)) (τ:Ty) (x:τ.den):St:=
 let st:=stOf ts τ x
 {t:=fun i=>match al.lookup i with
   | some b=>if b<65536 then st.t b else match cellOf st (b % 65536) (b / 65536-1) with
    | some c=> .one c
    | none=> .undef
   | none=>st.t i,
  o:=st.o}
def prStA (ts:List Nat) (al:List (Nat×Nat)) (τ:Ty) (st:St):Option τ.den:=if alOK al st=true then prSt ts τ st else none
def backCs:(τ:Ty)->List C->τ.den->Sto->Nat->Option (Inj (List C))
 | .agg fs,cs,z,s,b=>backCs fs cs z s b
 | .nil,cs,_,s,b=>some {cs,s,b,ids:= []}
 | .cons a r,cs,z,s,b=>match backCs a cs z.1 s b with
  | none=>none
  | some p=>match backCs r p.cs z.2 p.s p.b with
   | none=>none
   | some q=>some {cs:=q.cs,s:=q.s,b:=q.b,ids:=p.ids++q.ids}
 | .own e,cs,z,s,b=>match cs with
  | .own id ver::r=>match s id with
   | (w,.ovec e' _)=>if w=ver∧e'=e then some {cs:=r,s:=s.set id (w,.vec e z),b,ids:= [id]} else none
   | _=>none
  | .e0::r=>some {cs:=r,s,b,ids:= []}
  | _=>none
 | .box _,_,_,_,_=>none
 | τ,cs,_,s,b=>match cs with
  | _::r=>if τ.isImm=true∧τ.sz=1 then some {cs:=r,s,b,ids:= []} else none
  | _=>none
def back1 (v:V) (s:Sto) (b:Nat):(a:Ty)->a.den->Option (Inj Unit)
 | .own e,z=>match v with
  | .one (.own id ver)=>match s id with
   | (w,.ovec e' _)=>if w=ver∧e'=e then some {cs:=(),s:=s.set id (w,.vec e z),b,ids:= [id]} else none
   | _=>none
  | .one .e0=>some {cs:=(),s,b,ids:= []}
  | _=>none
 | .box e,z=>match v with
  | .one (.bp id ver 0)=>
   let p:=inj e z s b
   match p.s id with
   | (w,.obox)=>if w=ver then some {cs:=(),s:=p.s.set id (w,.box p.cs),b:=p.b,ids:=p.ids++ [id]} else none
   | _=>none
  | _=>none
 | .map e,z=>match v with
  | .one (.mp id ver)=>match s id with
   | (w,.omap)=>if w=ver then some {cs:=(),s:=s.set id (w,.mapo e z),b,ids:= [id]} else none
   | _=>none
  | _=>none
 | .sb T te,z=>match v with
  | .one (.mp id ver)=>match s id with
   | (w,.obox)=>if w=ver then some {cs:=(),s:=s.set id (w,.sbo T te z),b,ids:= [id]} else none
   | _=>none
  | _=>none
 | .agg fs,z=>match v with
  | .agg cs=>match backCs fs cs z s b with
   | some {cs:= [],s:=s',b:=b',ids}=>some {cs:=(),s:=s',b:=b',ids}
   | _=>none
  | _=>none
 | _,_=>none
def back:(io:List Bool)->(τs:Ty)->List V->(ioTy io τs).den->Sto->Nat->Option (Inj Unit)
 | true::io,.cons a r,v::vs,z,s,b=>match back1 v s b a z.1 with
  | some l1=>match back io r vs z.2 l1.s l1.b with
   | some l2=>some {cs:=(),s:=l2.s,b:=l2.b,ids:=l1.ids++l2.ids}
   | none=>none
  | none=>none
 | false::io,.cons _ r,_::vs,z,s,b=>back io r vs z s b
 | [],.nil,[],_,s,b=>some {cs:=(),s,b,ids:= []}
 | _,_,_,_,_,_=>none
def unlend (s0 s1:Sto):Sto:=fun i=>match (s1 i).2 with
 | .lvec _ _=>s0 i
 | _=>s1 i
def isBoolT (P:Program) (t:TypeId):Bool:=match P.underlying t with
 | some .bool=>true
 | _=>false
def isStrT (P:Program) (t:TypeId):Bool:=match P.underlying t with
 | some .string=>true
 | _=>false
def okP (P:Program) (t:TypeId):Bool:=(P.underlying t).isSome
def callable (P:Program) (f:FuncId):Bool:=match P.funcs[f]? with
 | some fn=>fn.body.isSome&&fn.name != "runtime.NumGoroutine"
 | none=>false
def rl (v:Nat):Nat:=v % 65536
def virt (f:Nat):List V->Nat
 | []=>f
 | .one (.imm (.fn g _) _)::_=>f+65536*(g+1)
 | _::r=>virt f r
def Env.vnum (E:Env) (d f:Nat) (vs:List V):Nat:=match E.twif d f with
 | 0=>virt (f+65536*E.twin d f) vs
 | p+1=>match vs[p]? with
  | some (.one (.own _ _))=>virt (f+65536*E.twin d f) vs
  | _=>virt f vs
def capsOk:Ty->Bool
 | .nil=>true
 | .cons a r=> !a.isAgg&&a.sz==1&&a.isImm&&capsOk r
 | _=>false
def exFs:(τs:Ty)->τs.den->List V
 | .cons a r,x=>V.ofCells a.isAgg (ex a x.1)::exFs r x.2
 | _,_=> []
def _root_.Go.Call.argTypes0 (c:Go.Call) (P:Program):Option TypeDesc:=(c.argTypes[0]?).bind P.underlying
structure Eff where
 v:V
 s:Sto
 w:List Nat:= []
 r:List Nat:= []
def St.app (st:St) (d:Option Nat) (e:Eff):St:=
 {t:=match d with
   | some d=>fun i=>if i=d then e.v else st.t i
   | none=>st.t,
  o:=fun i=>if e.w.contains i then e.s i else st.o i}
def St.eval (st:St):Operand->V
 | .tmp t=>st.t t
 | .const v=>constV v
 | .global _=> .undef
 | .func f=> .one (.imm (.fn f .nil) ())
def V.one?:V->Option C
 | .one c=>some c
 | _=>none
def shlI (k:IntKind) (x y:Int):Int:=k.wrap (x*2 ^ (min y.toNat k.bits))
def shrI (k:IntKind) (x y:Int):Int:=x.fdiv (2 ^ (min y.toNat k.bits))
def bitsI (op:BinOp) (k:IntKind) (x y:Int):Int:=
 let a:=BitVec.ofInt k.bits x
 let b:=BitVec.ofInt k.bits y
 k.wrap (match op with
  | .and=>a &&& b
  | .or=>a ||| b
  | _=>a ^^^ b).toNat
variable {R : Type}
def binInt (op:BinOp) (k:IntKind) (x y:Int) (K:C->Option R):Option R:=
 match op with
 | .add=>K (.imm (.int k) (k.wrap (x+y)))
 | .sub=>K (.imm (.int k) (k.wrap (x-y)))
 | .mul=>K (.imm (.int k) (k.wrap (x*y)))
 | .quo=>if y=0 then none else K (.imm (.int k) (k.wrap (x.tdiv y)))
 | .rem=>if y=0 then none else K (.imm (.int k) (x.tmod y))
 | .and | .or | .xor=>K (.imm (.int k) (bitsI op k x y))
 | .eql=>K (.imm .bool (x==y))
 | .neq=>K (.imm .bool (x !=y))
 | .lss=>K (.imm .bool (decide (x<y)))
 | .leq=>K (.imm .bool (decide (x<=y)))
 | .gtr=>K (.imm .bool (decide (x>y)))
 | .geq=>K (.imm .bool (decide (x>=y)))
 | _=>none
def binStr (op:BinOp) (x y:List UInt8) (K:C->Option R):Option R:=
 match op with
 | .add=>if x.length+y.length<=4611686018427387904 then K (.imm .str (x++y)) else none
 | .eql=>K (.imm .bool (x==y))
 | .neq=>K (.imm .bool (!(x==y)))
 | .lss=>K (.imm .bool (Op.bytesLess x y))
 | .leq=>K (.imm .bool (Op.bytesLess x y || x==y))
 | .gtr=>K (.imm .bool (!(Op.bytesLess x y || x==y)))
 | .geq=>K (.imm .bool (!Op.bytesLess x y))
 | _=>none
def binC (tb:Bool) (op:BinOp) (a b:C) (K:C->Option R):Option R:=
 match a,b with
 | .imm (.int k) x,.imm (.int k') y=>
  match op with
  | .shl=>if (y:Int)<0 then none else K (.imm (.int k) (shlI k x y))
  | .shr=>if (y:Int)<0 then none else K (.imm (.int k) (shrI k x y))
  | _=>if k=k' then binInt op k x y K else none
 | .imm .bool x,.imm .bool y=>
  if tb=true then match op with
   | .eql=>K (.imm .bool ((x:Bool)==(y:Bool)))
   | .neq=>K (.imm .bool (!((x:Bool)==(y:Bool))))
   | _=>none
  else none
 | .imm .str x,.imm .str y=>binStr op x y K
 | _,_=>none
def isIntT (P:Program) (t:TypeId) (k:IntKind):Bool:=match P.underlying t with
 | some (.int k')=>decide (k=k')
 | _=>false
def eqI (P:Program):List Field->List C->List C->Nat->Option Bool
 | [],[],[],_=>some true
 | f::fs,.imm (.int k) a::cs,.imm (.int k') b::ds,i=>
  if (f.name != "_" &&(decide (f.offset=i)&&(isIntT P f.type k&&decide (k=k'))))=true then (eqI P fs cs ds (i+1)).map fun r=>((a:Int)==(b:Int))&&r else none
 | _,_,_,_=>none
def stT (P:Program) (t:TypeId):Option (List Field):=match P.underlying t with
 | some (.struct fs)=>if (!P.stoodInHeld t&& !P.eqGuardType P.depth t)=true then some fs.toList else none
 | _=>none
def binA (P:Program) (t:TypeId) (op:BinOp) (cs ds:List C) (K:Bool->Option R):Option R:=
 (stT P t).bind fun fs=>(eqI P fs cs ds 0).bind fun r=>match op with
  | .eql=>K r
  | .neq=>K (!r)
  | _=>none
def binV (P:Program) (t:TypeId) (op:BinOp) (u v:V) (K:C->Option R):Option R:=match u,v with
 | .agg cs,.agg ds=>binA P t op cs ds fun c=>K (.imm .bool c)
 | _,_=>match u.one? with
  | some a=>match v.one? with
   | some b=>binC (isBoolT P t) op a b K
   | none=>none
  | none=>none
def unC (op:UnOp) (a:C) (K:C->Option R):Option R:=
 match op,a with
 | .not,.imm .bool x=>K (.imm .bool (!x))
 | .neg,.imm (.int k) x=>K (.imm (.int k) (k.wrap (0-x)))
 | .xor,.imm (.int k) x=>K (.imm (.int k) (bitsI .xor k (if k.signed then -1 else k.max) x))
 | _,_=>none
def getSl (c:C) (s:Sto) (K:(e:Ty)->List e.den->List Nat->Option R):Option R:=
 match c with
 | .imm (.sl e) xs=>K e xs []
 | .own id ver=>match s id with
  | (v,.vec e xs)=>if v=ver then K e xs [id] else none
  | (v,.fvec e xs)=>if v=ver then K e xs [id] else none
  | _=>none
 | .sub id ver lo hi=>match s id with
  | (v,.vec e xs)=>if v=ver then K e ((xs.take hi).drop lo) [id] else none
  | (v,.fvec e xs)=>if v=ver then K e ((xs.take hi).drop lo) [id] else none
  | _=>none
 | _=>none
def lenC (t:Option TypeDesc) (c:C) (s:Sto) (K:Int->List Nat->Option R):Option R:=
 match t with
 | some .string=>match c with
  | .imm .str x=>K (x.length:Int) []
  | _=>none
 | some (.slice _)=>match c with
  | .e0=>K 0 []
  | c=>getSl c s fun _ xs m=>K (xs.length:Int) m
 | some (.map _ _)=>match c with
  | .mp id ver=>match s id with
   | (v,.mapo _ xs)=>if v=ver then K (xs.length:Int) [id] else none
   | _=>none
  | _=>none
 | _=>none
def idx {α:Type} (xs:List α) (i:Int):Option α:=if 0<=i then xs[i.toNat]? else none
def cellsAt (c:C) (s:Sto) (K:List C->List Nat->Option R):Option R:=
 match c with
 | .iptr τ x off=>if τ.isImm=true then K ((ex τ x).drop off) [] else none
 | .bp id ver off=>match s id with
  | (v,.box cs)=>if v=ver then K (cs.drop off) [id] else none
  | (v,.fbox τ x)=>if v=ver∧τ.isImm=true then K ((ex τ x).drop off) [id] else none
  | _=>none
 | .ep id ver i off=>match s id with
  | (v,.vec e xs)=>if v=ver∧e.isImm=true then (xs[i]?).bind fun x=>K ((ex e x).drop off) [id] else none
  | _=>none
 | _=>none
def setCs (cs:List C) (off:Nat) (vs:List C):List C:=cs.take off++vs++cs.drop (off+vs.length)
def strBytes (x:List UInt8):List Int:=x.map fun b=>(b.toNat:Int)
def bytesStr (x:List Int):List UInt8:=x.map fun n=>UInt8.ofNat n.toNat
def putAt:(e:Ty)->e.den->Nat->List C->Sto->Option (Pr e.den)
 | .agg fs,x,n,cs,s=>if n=0∧cs.length=fs.sz then pr false fs cs s [] else putAt fs x n cs s
 | .cons a r,x,n,cs,s=>
  if n<a.sz then match putAt a x.1 n cs s with
   | some p=>some {x:=(p.x,x.2),rest:=p.rest,s:=p.s,m:=p.m}
   | none=>none
  else match putAt r x.2 (n-a.sz) cs s with
   | some p=>some {x:=(x.1,p.x),rest:=p.rest,s:=p.s,m:=p.m}
   | none=>none
 | τ,_,n,cs,s=>if n=0∧cs.length=τ.sz then pr false τ cs s [] else none
def deepEp (v:V) (s:Sto):Bool:=match v with
 | .one (.ep id _ _ _)=>match (s id).2 with
  | .vec e _=> !e.isImm
  | .hvec _ _ _ _ _ _ _=>true
  | _=>false
 | _=>false
def mvEp (v:V) (s:Sto):Option (Nat×Nat×Nat×Sigma fun a:Ty=>List (Ty.mv a).den):=match v with
 | .one (.ep id ver i off)=>match s id with
  | (v,.vec (.mv a) xs)=>if v=ver∧off=0 then some (id,v,i,⟨a,xs⟩) else none
  | _=>none
 | _=>none
def forceK (t:Nat) (st:St) (k:St->Option R):Option R:=match st.t t with
 | .one (.own id ver)=>match st.o id with
  | (v,.vec (.mv a) xs)=>if v=ver then (if allOw xs=true then k {st with o:=st.o.set id (v,.vec (.own a) (forceL xs))} else none) else none
  | (v,.vec e xs)=>if v=ver∧(immOf e).isImm=true then k {st with o:=st.o.set id (v,.fvec (immOf e) (toImm (.own e) xs))} else none
  | (v,.hvec e xs i y off id' ver')=>if v=ver∧id'≠id then match fillK st.o e xs i y off id' ver' with
    | some (ys,s')=>k {st with o:=s'.set id (v,.vec e ys)}
    | none=>none
   else none
  | _=>none
 | .one (.sub _ _ _ _)=>k st
 | _=>none
def borrowK (new id v:Nat) (e:Ty) (xs:List e.den) (i off:Nat) (s:Sto) (w:List Nat) (K:Eff->Option R):Option R:=
 match xs[i]? with
 | some x=>match getAt e x off with
  | some ⟨σ,ys⟩=>if new≠id∧w.contains new=false then
    K {v:= .one (.own new ((s new).1+1)),s:=(s.set id (v,.hvec e xs i x off new ((s new).1+1))).set new ((s new).1+1,.vec σ ys),w:=id::new::w}
   else none
  | none=>none
 | none=>none
def prElems (e:Ty):List (List C)->Sto->List Nat->Option (Pr (List e.den))
 | [],s,m=>some {x:= [],rest:= [],s,m}
 | cs::r,s,m=>match pr false e cs s m with
  | some {x,rest:= [],s:=s1,m:=m1}=>match prElems e r s1 m1 with
   | some q=>some {x:=x::q.x,rest:= [],s:=q.s,m:=q.m}
   | none=>none
  | _=>none
def fillCs (P:Program) (fs:List Field):List (Nat×V)->List C->Option (List C)
 | [],cs=>some cs
 | (i,v)::r,cs=>match fs[i]? with
  | some f=>if v.cells.length=szP P f.type∧f.offset+szP P f.type<=cs.length∧v.cells.length≠0 then fillCs P fs r (setCs cs f.offset v.cells) else none
  | none=>none
def buildable (P:Program) (t:TypeId):Bool:=match P.underlying t with
 | some (.struct fs)=>fs.toList.all fun f=>(P.info? f.type).isSome
 | _=>false
def hasZero (P:Program) (t:TypeId):Bool:=match P.info? t with
 | some i=>match i.zero with
  | some z=>z.cells.size==i.size
  | none=>false
 | none=>false
def arrP (P:Program) (t:TypeId):Option (Nat×TypeId):=match P.underlying t with
 | some (.array n e)=>some (n,e)
 | _=>none
def splitI {R:Type}:Nat->Nat->Int->(Nat->Option R)->Option R
 | 0,_,_,_=>none
 | n+1,k,i,K=>if i=(k:Int) then K k else splitI n (k+1) i K
def isStrC:C->Bool
 | .imm .str _=>true
 | _=>false
def isE0:C->Bool
 | .e0=>true
 | _=>false
def srcK (x:C) (s:Sto) (K:(e:Ty)->List e.den->List Nat->Option R):Option R:=match x with
 | .imm .str y=>K (.int .u8) (strBytes y) []
 | x=>getSl x s K
def deepOf (x:C) (s:Sto):Option (Nat×Nat×Sigma fun e:Ty=>List e.den):=match x with
 | .own id ver=>match s id with
  | (v,.vec e ys)=>if v=ver∧e.isImm=false then some (id,v,⟨e,ys⟩) else none
  | _=>none
 | _=>none
def appendD (P:Program) (t:TypeId) (new:Nat) (c:C) (id2 v2:Nat) (e:Ty) (ys:List e.den) (s:Sto) (K:Eff->Option R):Option R:=
 match elemP P t with
 | none=>none
 | some te=>
  let room (n:Nat) (k:Option R):Option R:=if n*bytesP P te<=140737488355328 then k else none
  if hasZero P te=true∧bytesP P te≠0∧szP P te≠0∧e.sz=szP P te then
   match c with
   | .e0=>if new≠id2 then room ys.length (K {v:= .one (.own new ((s new).1+1)),s:=(s.set id2 (v2,.ovec e ys)).set new ((s new).1+1,.vec e ys),w:= [new,id2]}) else none
   | .own id ver=>match s id with
    | (v,.vec e' xs)=>
     if v=ver∧id≠id2 then
      if h:Ty.sl e= .sl e' then room (xs.length+ys.length) (K {v:= .one (.own id (ver+1)),s:=(s.set id2 (v2,.ovec e ys)).set id (ver+1,.vec e' (xs++castDen (τ:= .sl e') h ys)),w:= [id,id2]})
      else none
     else none
    | _=>none
   | _=>none
  else none
def appendK (P:Program) (t:TypeId) (new:Nat) (c x:C) (s:Sto) (K:Eff->Option R):Option R:=
 match elemP P t with
 | none=>none
 | some te=>
  let room (n:Nat) (k:Option R):Option R:=if n*bytesP P te<=140737488355328 then k else none
  if hasZero P te=true∧bytesP P te≠0∧szP P te≠0 then
   match x with
   | .e0=>match c with
    | .e0=>K {v:= .one .e0,s}
    | .own id ver=>match s id with
     | (v,.vec _ _)=>if v=ver then K {v:= .one (.own id ver),s,r:= [id]} else none
     | _=>none
    | _=>none
   | x=>srcK x s fun e ys m=>if e.isImm=true∧e.sz=szP P te then
    match c with
    | .e0=>if m.contains new=false then room ys.length (K {v:= .one (.own new ((s new).1+1)),s:=s.set new ((s new).1+1,.vec e ys),w:= [new],r:=m}) else none
    | .own id ver=>match s id with
     | (v,.vec e' xs)=>
      if v=ver∧m.contains id=false then
       if h:Ty.sl e= .sl e' then room (xs.length+ys.length) (K {v:= .one (.own id (ver+1)),s:=s.set id (ver+1,.vec e' (xs++castDen (τ:= .sl e') h ys)),w:= [id],r:=m})
       else none
      else none
     | _=>none
    | .sub id ver lo hi=>match s id with
     | (v,.vec e' xs)=>
      if v=ver∧m.contains id=false∧lo=0 then
       if h:Ty.sl e= .sl e' then room (hi+ys.length) (K {v:= .one (.own id (ver+1)),s:=s.set id (ver+1,.vec e' (xs.take hi++castDen (τ:= .sl e') h ys)),w:= [id],r:=m})
       else none
      else none
     | _=>none
    | _=>none
    else none
  else none
def mget {α:Type}:List (Int×α)->Int->α->α
 | [],_,z=>z
 | (a,b)::r,k,z=>if a=k then b else mget r k z
def mhas {α:Type}:List (Int×α)->Int->Bool
 | [],_=>false
 | (a,_)::r,k=>if a=k then true else mhas r k
def mput {α:Type}:List (Int×α)->Int->α->List (Int×α)
 | [],k,y=> [(k,y)]
 | (a,b)::r,k,y=>if a=k then (a,y)::r else (a,b)::mput r k y
def mapInt (P:Program) (t:TypeId):Option TypeId:=match P.underlying t with
 | some (.map k e)=>match P.underlying k with
  | some (.int .i64)=>some e
  | _=>none
 | _=>none
def boundsK (n:Int) (lo hi:Option V) (K:Nat->Nat->Option R):Option R:=
 let num (v:Option V) (d:Int) (k:Int->Option R):Option R:=match v with
  | none=>k d
  | some (.one (.imm (.int _) i))=>k i
  | _=>none
 num lo 0 fun l=>num hi n fun h=>if 0<=l∧l<=h∧h<=n then K l.toNat h.toNat else none
def sliceK (t:Option TypeDesc) (sz:Nat) (c:C) (lo hi:Option V) (s:Sto) (K:C->List Nat->Option R):Option R:=
 match t,c with
 | some .string,.imm .str x=>boundsK x.length lo hi fun l h=>K (.imm .str ((x.take h).drop l)) []
 | some (.slice _),.imm (.sl e) x=>if e.sz=sz∧sz≠0 then boundsK x.length lo hi fun l h=>K (.imm (.sl e) ((x.take h).drop l)) [] else none
 | some (.slice _),.e0=>if sz≠0 then boundsK 0 lo hi fun _ _=>K .e0 [] else none
 | some (.slice _),.own id ver=>match s id with
  | (v,.vec e xs)=>if v=ver∧e.sz=sz∧sz≠0 then boundsK xs.length lo hi fun l h=>K (.sub id ver l h) [id] else none
  | (v,.fvec e xs)=>if v=ver∧e.sz=sz∧sz≠0 then boundsK xs.length lo hi fun l h=>K (.imm (.sl e) ((xs.take h).drop l)) [id] else none
  | _=>none
 | _,_=>none
def newId (d:Option Nat):Nat:=match d with
 | some d=>64*d
 | none=>999999
def V.pair:V->Bool×List C
 | .agg cs=>(true,cs)
 | v=>(false,v.cells)
def tupOf (vs:List V):V:=match vs with
 | [v]=>v
 | vs=> .tup (vs.map V.pair)
def callT (τs ρs:Ty) (io:List Bool) (F:τs.den->Option (ρs.den×(ioTy io τs).den)) (args:List V) (s:Sto) (b:Nat) (K:Eff->Option R):Option R:=
 match prFs (ρs.flat&&(ioTy io τs).flat) τs args s [] with
 | none=>none
 | some p=>(F p.x).bind fun yz=>
  match back io τs args yz.2 (unlend s p.s) (b+32) with
  | none=>none
  | some l=>
   let q:=injFs ρs yz.1 l.s b
   if q.b<=b+32∧l.b<=b+64 then K {v:=tupOf q.cs,s:=q.s,w:=p.m++l.ids++q.ids} else none
def callK (E:Env) (O:Oracle E) (g:Nat) (args:List V) (s:Sto) (b:Nat) (K:Eff->Option R):Option R:=callT (E.ps g) (E.rs g) (E.io g) (O.C g) args s b K
@[reducible] def unh : Ty -> Ty
 | .opq=> .unk
 | .agg fs=> .agg (unh fs)
 | .cons a r=> .cons (unh a) (unh r)
 | .box e=> .box (unh e)
 | .bool=> .bool | .int k=> .int k | .str=> .str | .sl e=> .sl e | .own e=> .own e | .nil=> .nil | .ptr e=> .ptr e | .fn f c=> .fn f c | .tree=> .tree | .unk=> .unk | .map e=> .map e | .mv e=> .mv e | .imap e=> .imap e | .iter e=> .iter e | .optr e=> .optr e | .sb T te=> .sb T te
def infl:(τ:Ty)->(unh τ).den->Value->τ.den
 | .opq,_,u=>u
 | .agg fs,x,u=>infl fs x u
 | .cons a r,x,u=>(infl a x.1 u,infl r x.2 u)
 | .box e,x,u=>infl e x u
 | .bool,x,_ | .int _,x,_ | .str,x,_ | .sl _,x,_ | .own _,x,_ | .nil,x,_ | .ptr _,x,_ | .fn _ _,x,_ | .tree,x,_ | .unk,x,_ | .map _,x,_ | .mv _,x,_ | .imap _,x,_ | .iter _,x,_ | .optr _,x,_ | .sb _ _,x,_=>x
def inflB:(io:List Bool)->(τs:Ty)->(ioTy io (unh τs)).den->Value->(ioTy io τs).den
 | true::io,.cons a r,z,u=>(infl a z.1 u,inflB io r z.2 u)
 | false::io,.cons _ r,z,u=>inflB io r z u
 | [],.bool,_,_ | [],.int _,_,_ | [],.str,_,_ | [],.sl _,_,_ | [],.own _,_,_ | [],.agg _,_,_ | [],.nil,_,_ | [],.cons _ _,_,_ | [],.ptr _,_,_ | [],.box _,_,_ | [],.fn _ _,_,_ | [],.tree,_,_ | [],.unk,_,_ | [],.map _,_,_ | [],.mv _,_,_ | [],.opq,_,_ | [],.imap _,_,_ | [],.iter _,_,_ | [],.optr _,_,_ | [],.sb _ _,_,_=>()
 | true::_,.bool,_,_ | true::_,.int _,_,_ | true::_,.str,_,_ | true::_,.sl _,_,_ | true::_,.own _,_,_ | true::_,.agg _,_,_ | true::_,.nil,_,_ | true::_,.ptr _,_,_ | true::_,.box _,_,_ | true::_,.fn _ _,_,_ | true::_,.tree,_,_ | true::_,.unk,_,_ | true::_,.map _,_,_ | true::_,.mv _,_,_ | true::_,.opq,_,_ | true::_,.imap _,_,_ | true::_,.iter _,_,_ | true::_,.optr _,_,_ | true::_,.sb _ _,_,_=>()
 | false::_,.bool,_,_ | false::_,.int _,_,_ | false::_,.str,_,_ | false::_,.sl _,_,_ | false::_,.own _,_,_ | false::_,.agg _,_,_ | false::_,.nil,_,_ | false::_,.ptr _,_,_ | false::_,.box _,_,_ | false::_,.fn _ _,_,_ | false::_,.tree,_,_ | false::_,.unk,_,_ | false::_,.map _,_,_ | false::_,.mv _,_,_ | false::_,.opq,_,_ | false::_,.imap _,_,_ | false::_,.iter _,_,_ | false::_,.optr _,_,_ | false::_,.sb _ _,_,_=>()
def hasH:Ty->Bool
 | .opq=>true
 | .agg fs=>hasH fs
 | .cons a r=>hasH a || hasH r
 | .box e=>hasH e
 | _=>false
def oneH:Ty->Nat->Bool
 | .opq,n=>n==0
 | .agg fs,n=>oneH fs n
 | .cons a r,n=>if n<a.sz then oneH a n&& !hasH r else oneH r (n-a.sz)&& !hasH a
 | _,_=>false
def oneFs:Ty->Nat->Bool
 | .cons (.box e) r,n=>oneH e n&& !hasH r
 | _,_=>false
open Classical in
def hidC {α β:Type} (f:Value->Option α) (mk:β->Value->α):Option β:=if h: ∃y,∀u:Value,u.oneCell'=true->f u=some (mk y u) then some h.choose else none
def hidK (E:Env) (O:Oracle E) (g:Nat) (off:Nat) (args:List V) (s:Sto) (b:Nat) (K:Eff->Option R):Option R:=
 match args with
 | .one (.bp id ver 0)::_=>match s id with
  | (v,.box cs)=>match cs[off]? with
   | some (.own i vi)=>if v=ver∧i≠id∧(s i).1=vi∧(s i).2.isV=true∧oneFs (E.ps g) off=true∧(E.io g).headD false=true then
     callT (unh (E.ps g)) (E.rs g) (E.io g) (fun x=>hidC (fun u=>O.H g (infl (E.ps g) x u)) (fun y u=>(y.1,inflB (E.io g) (E.ps g) y.2 u))) args (s.set id (v,.box (cs.set off (.imm .unk ())))) b fun e=>
      if e.w.contains i=false∧e.w.contains id=true then match e.s id with
       | (v',.box cs')=>match cs'[off]? with
        | some (.imm .unk _)=>if v'=v then K {e with s:=e.s.set id (v',.box (cs'.set off (.own i vi))),w:=id::e.w,r:=i::e.r} else none
        | _=>none
       | _=>none
      else none
    else none
   | _=>none
  | _=>none
 | _=>none
def mkObj (d:Option Nat) (s:Sto) (o:Obj) (c:Nat->Nat->C) (w:List Nat) (K:Eff->Option R):Option R:=
 K {v:= .one (c (newId d) ((s (newId d)).1+1)),s:=s.set (newId d) ((s (newId d)).1+1,o),w:=newId d::w}
def zeroAs:(τ:Ty)->C->Option τ.den
 | .sl _,.e0=>some []
 | τ,.imm σ z=>if h:σ=τ then some (castDen h z) else none
 | _,_=>none
def exOp (E:Env) (O:Oracle E) (o:Oper) (st:St) (K:Eff->Option R):Option R:=
 let P:=E.P
 let one (x:Operand) (k:C->Option R):Option R:=match (st.eval x).one? with
  | some c=>k c
  | none=>none
 let val (v:V) (r:List Nat:= []):Option R:=K {v,s:=st.o,r}
 match o.op with
 | .move x | .assign x=>val (st.eval x)
 | .pick c a b=>one c fun
  | .imm .bool c=>val (if c=true then st.eval a else st.eval b)
  | _=>none
 | .alloc t=>match zeroCs P t with
  | some cs=>match E.sbt t with
   | some te=>if isSbZ ((P.info? t).bind (·.zero))=true then mkObj o.dst st.o (.sbo t te []) .mp [] K else none
   | none=>mkObj o.dst st.o (.box cs) (.bp · · 0) [] K
  | none=>none
 | .box _ x=>match st.eval x with
  | .one c=>mkObj o.dst st.o (.box [c]) (.bp · · 0) [] K
  | .agg cs=>mkObj o.dst st.o (.box cs) (.bp · · 0) [] K
  | _=>none
 | .build t parts=>match arrP P t with
  | some (_,te)=>match zeroCs P t,parts.toList with
   | some cs,[]=>if szP P te≠0 then val (.agg cs) else none
   | _,_=>none
  | none=>match zeroCs P t with
  | some cs=>if buildable P t=true then
    match fillCs P (fieldsP P t) (parts.toList.map fun p=>(p.1,st.eval p.2)) cs with
    | some ds=>val (.agg ds)
    | none=>none
   else none
  | none=>none
 | .buildSlice t len parts=>
  match elemP P t with
  | none=>none
  | some te=>match E.elt o.dst te with
   | none=>none
   | some e=>
    if parts.toList.map (·.1)=List.range len∧e.sz=szP P te∧e.sz≠0∧hasZero P te=true∧len*e.sz<=16777216 then
     match prElems e (parts.toList.map fun p=>(st.eval p.2).cells) st.o [] with
     | some q=>mkObj o.dst q.s (.vec e q.x) .own q.m K
     | none=>none
    else none
 | .load t x=>match mvEp (st.eval x) st.o with
  | some (id,v,i,⟨a,xs⟩)=>if okP P t=true∧isAggP P t=false∧szP P t=1 then
    (if E.borrow (o.dst.getD 0) t=true then (takeO xs i).bind fun ys=>
     if newId o.dst≠id then K {v:= .one (.own (newId o.dst) ((st.o (newId o.dst)).1+1)),s:=(st.o.set id (v,.vec (.mv a) (xs.set i none))).set (newId o.dst) ((st.o (newId o.dst)).1+1,.vec a ys),w:= [id,newId o.dst]} else none
     else if a.isImm=true then (seeO xs i).bind fun ys=>val (.one (.imm (.sl a) ys)) [id] else none)
   else none
  | none=>if E.borrow (o.dst.getD 0) t=true∧deepEp (st.eval x) st.o=true then one x fun
   | .ep id ver i off=>if okP P t=true∧isAggP P t=false∧szP P t=1 then match st.o id with
     | (v,.vec e xs)=>if v=ver then borrowK (newId o.dst) id v e xs i off st.o [] K else none
     | (v,.hvec e xs i' x' off' id' ver')=>if v=ver∧id'≠id then match fillK st.o e xs i' x' off' id' ver' with
       | some (ys,s')=>borrowK (newId o.dst) id v e ys i off s' [id'] K
       | none=>none
      else none
     | _=>none
    else none
   | _=>none
  else one x fun c=>cellsAt c st.o fun cs m=>
   if okP P t=true∧(cs.take (szP P t)).length=szP P t∧(isAggP P t=false->szP P t=1) then val (V.ofCells (isAggP P t) (cs.take (szP P t))) m else none
 | .store t x y=>one x fun c=>
   let vs:=(st.eval y).cells
   if vs.length=szP P t∧vs.length≠0 then
    match c with
    | .bp id ver off=>match st.o id with
     | (v,.box cs)=>if v=ver∧off+vs.length<=cs.length then K {v:= .undef,s:=st.o.set id (v,.box (setCs cs off vs)),w:= [id]} else none
     | _=>none
    | .ep id ver i off=>match st.o id with
     | (v,.vec e xs)=>
      if v=ver∧e.isImm=true then (xs[i]?).bind fun x=>
       if off+vs.length<=(ex e x).length then
        match pr false e (setCs (ex e x) off vs) st.o [] with
        | some {x:=x',rest:= [],s:=s',m}=>if m.contains id then none else K {v:= .undef,s:=s'.set id (v,.vec e (xs.set i x')),w:=id::m}
        | _=>none
       else none
      else if v=ver then (xs[i]?).bind fun x=>match putAt e x off vs st.o with
       | some {x:=x',rest:= [],s:=s',m}=>if m.contains id then none else K {v:= .undef,s:=s'.set id (v,.vec e (xs.set i x')),w:=id::m}
       | _=>none
      else none
     | _=>none
    | _=>none
   else none
 | .nilCheck x=>match st.eval x with
  | .one (.bp id v off)=>if (st.o id).1=v∧(st.o id).2.isB=true then val (.one (.bp id v off)) [id] else none
  | .one (.ep id v i off)=>if (st.o id).1=v∧(st.o id).2.isV=true then val (.one (.ep id v i off)) [id] else none
  | .one (.iptr τ x off)=>val (.one (.iptr τ x off))
  | .one (.imm (.optr e) x)=>(x:Option e.den).bind fun y=>val (.one (.iptr e y 0))
  | .one (.imm .tree x)=>match x with
   | .nil=>none
   | .mk op v l r kids=>val (.one (.iptr (.agg nodeTy) (op,v,l,r,kids,()) 0))
  | _=>none
 | .binOp op t x y _=>binV P t op (st.eval x) (st.eval y) fun c=>val (.one c)
 | .unOp op _ x=>one x fun a=>unC op a fun c=>val (.one c)
 | .convert src dst x=>one x fun a=>match P.underlying src,P.underlying dst,a with
   | some _,some (.int k),.imm (.int _) n=>val (.one (.imm (.int k) (k.wrap n)))
   | some _,some .string,.imm .str x=>val (.one (.imm .str x))
   | some (.slice e),some .string,c=>match P.underlying e with
    | some (.int .u8)=>match c with
     | .e0=>val (.one (.imm .str []))
     | c=>getSl c st.o fun
      | .int .u8,xs,m=>val (.one (.imm .str (bytesStr xs))) m
      | _,_,_=>none
    | _=>none
   | _,_,_=>none
 | .makeFunc (.func g) first captured=>
  if first.size=0∧capsOk (E.caps g)=true then
   match prFs false (E.caps g) (captured.toList.map st.eval) st.o [] with
   | some p=>K {v:= .one (.imm (.fn g (E.caps g)) p.x),s:=p.s,w:=p.m}
   | none=>none
  else none
 | .makeSlice t len cap=>match elemP P t with
  | none=>none
  | some te=>match E.elt o.dst te,zeroCs P te,st.eval len,st.eval cap with
   | some e,some z,.one (.imm (.int .i64) n),.one (.imm (.int .i64) n')=>match pr false e z st.o [] with
    | some {x,rest:= [],s:=_,m:= []}=>
     if e.sz=szP P te∧e.sz≠0∧bytesP P te≠0 then
      if 0<=(n:Int)∧bytesP P te*(n:Int)<=140737488355328∧(n:Int)=n' then
       mkObj o.dst st.o (.vec e (List.replicate (Int.toNat n) x)) .own [] K
      else none
     else none
    | _=>none
   | _,_,_,_=>none
 | .slice t x lo hi mx=>match mx with
  | none=>one x fun c=>sliceK (P.underlying t) (szP P ((elemP P t).getD 0)) c (lo.map st.eval) (hi.map st.eval) st.o fun c m=>val (.one c) m
  | some _=>none
 | .fieldAddr t x i=>match (fieldsP P t)[i]? with
  | none=>none
  | some f=>if szP P f.type=0 then none else one x fun
   | .bp id v off=>if (st.o id).1=v∧(st.o id).2.isB=true then val (.one (.bp id v (off+f.offset))) [id] else none
   | .ep id v i off=>if (st.o id).1=v∧(st.o id).2.isV=true then val (.one (.ep id v i (off+f.offset))) [id] else none
   | .iptr τ x off=>val (.one (.iptr τ x (off+f.offset)))
   | _=>none
 | .field t x i=>match (fieldsP P t)[i]?,st.eval x with
  | some f,.agg cs=>if okP P f.type=true∧((cs.drop f.offset).take (szP P f.type)).length=szP P f.type∧(isAggP P f.type=false->szP P f.type=1) then val (V.ofCells (isAggP P f.type) ((cs.drop f.offset).take (szP P f.type))) else none
  | _,_=>none
 | .indexAddr t x i=>one x fun c=>one i fun
  | .imm (.int _) i=>match elemP P t with
   | none=>match arrP P t,c with
    | some (n,te),.bp id v off=>if (st.o id).1=v∧(st.o id).2.isB=true∧szP P te=1∧2<=n then splitI n 0 i fun j=>val (.one (.bp id v (off+j))) [id] else none
    | _,_=>none
   | some te=>if szP P te=0 then none else match c with
    | .imm (.sl e) xs=>if e.sz=szP P te then (idx xs i).bind fun x=>val (.one (.iptr e x 0)) else none
    | .own id ver=>match st.o id with
     | (v,.vec e xs)=>if v=ver∧e.sz=szP P te then (if 0<=(i:Int)∧(i:Int)<xs.length then val (.one (.ep id ver (Int.toNat i) 0)) [id] else none) else none
     | (v,.fvec e xs)=>if v=ver∧e.sz=szP P te then (idx xs i).bind fun x=>val (.one (.iptr e x 0)) [id] else none
     | (v,.hvec e xs _ _ _ _ _)=>if v=ver∧e.sz=szP P te then (if 0<=(i:Int)∧(i:Int)<xs.length then val (.one (.ep id ver (Int.toNat i) 0)) [id] else none) else none
     | _=>none
    | .sub id ver lo hi=>match st.o id with
     | (v,.vec e _)=>if v=ver∧e.sz=szP P te then (if 0<=(i:Int)∧(i:Int)<(hi:Int)-lo then val (.one (.ep id ver (lo+Int.toNat i) 0)) [id] else none) else none
     | _=>none
    | _=>none
  | _=>none
 | .index t x i=>one x fun
  | .imm .str s=>one i fun
   | .imm (.int _) i=>match P.underlying t with
    | some .string=>(idx s i).bind fun b=>val (.one (.imm (.int .u8) (b.toNat:Int)))
    | _=>none
   | _=>none
  | _=>none
 | .makeMap t r=>match r with
  | none=>match mapInt P t with
   | some e=>match tyP P 20 e with
    | some τ=>mkObj o.dst st.o (.mapo τ []) .mp [] K
    | none=>none
   | none=>none
  | some _=>none
 | .lookup t x i ok=>one x fun c=>one i fun d=>match c,d with
  | .mp id ver,.imm (.int .i64) k=>match st.o id,mapInt P t with
   | (v,.mapo τ xs),some e=>match zeroCs P e with
    | some [z]=>if v=ver∧zeroOne P e=true then (match zeroAs τ z with
      | some z=>if ok=true then val (.tup [(false,[.imm τ (mget xs k z)]),(false,[.imm .bool (mhas xs k)])]) [id]
       else val (.one (.imm τ (mget xs k z))) [id]
      | none=>none) else none
    | _=>none
   | _,_=>none
  | .imm (.imap τ) xs,.imm (.int .i64) k=>match mapInt P t with
   | some e=>match zeroCs P e with
    | some [.imm σ z]=>if zeroOne P e=true then (if h:σ=τ then
      (if ok=true then val (.tup [(false,[.imm τ (mget xs k (castDen h z))]),(false,[.imm .bool (mhas xs k)])]) []
       else val (.one (.imm τ (mget xs k (castDen h z)))) [])
      else none) else none
    | _=>none
   | none=>none
  | _,_=>none
 | .range t x=>one x fun
  | .imm (.imap τ) xs=>match mapInt P t with
   | some _=>mkObj o.dst st.o (.itero τ (none,xs)) .mp [] K
   | none=>none
  | _=>none
 | .entry x=>one x fun
  | .mp id ver=>match st.o id with
   | (v,.itero τ (some p,_))=>if v=ver then val (.tup [(false,[.imm (.int .i64) p.1]),(false,[.imm τ p.2])]) [id] else none
   | _=>none
  | _=>none
 | .mapUpdate t x k y | .insert t x k y=>one x fun c=>one k fun d=>one y fun u=>match c,d,u with
  | .mp id ver,.imm (.int .i64) n,.imm σ z=>match st.o id,mapInt P t with
   | (v,.mapo τ xs),some _=>if v=ver∧τ.isImm=true then (if h:σ=τ then K {v:= .undef,s:=st.o.set id (v,.mapo τ (mput xs n (castDen h z))),w:= [id]} else none) else none
   | _,_=>none
  | _,_,_=>none
 | .extract x i=>match st.eval x with
  | .tup vs=>match vs[i]? with
   | some (a,cs)=>val (V.ofCells a cs)
   | none=>none
  | _=>none
 | .call ca=>match ca.callee,ca.args.toList with
  | .builtin .len,[x]=>one x fun c=>lenC (ca.argTypes0 P) c st.o fun n m=>val (.one (.imm (.int .i64) n)) m
  | .builtin .min,[x,y]=>one x fun a=>one y fun b=>match a,b with
   | .imm (.int k) a,.imm (.int _) b=>val (.one (.imm (.int k) (if (b:Int)<a then b else a)))
   | _,_=>none
  | .builtin .max,[x,y]=>one x fun a=>one y fun b=>match a,b with
   | .imm (.int k) a,.imm (.int _) b=>val (.one (.imm (.int k) (if (b:Int)>a then b else a)))
   | _,_=>none
  | .builtin .append,[x,y]=>one x fun a=>one y fun b=>match ca.argTypes.toList with
   | [t,t']=>match deepOf b st.o with
    | some (id2,v2,⟨e,ys⟩)=>if t'=t then appendD P t (newId o.dst) a id2 v2 e ys st.o K else none
    | none=>if (t'=t∧isStrC b=false)∨(isStrT P t'=true∧isStrC b=true) then appendK P t (newId o.dst) a b st.o K else none
   | _=>none
  | .value g,args=>one g fun
   | .imm (.fn f caps) x=>match E.clone f with
    | some t=>match args with
     | [y]=>one y fun c=>if isE0 c=false∧isStrC c=false∧callable P f=true∧caps= .nil then appendK P t (newId o.dst) .e0 c st.o K else none
     | _=>none
    | none=>match E.grow f with
    | some t=>match args with
     | [.const (.slice none 0 0),y]=>one y fun d=>match d,elemP P t with
      | .imm (.int .i64) n,some te=>match tyP P 20 te with
       | some e=>if e.isImm=true∧e.sz=szP P te∧callable P f=true∧caps= .nil then
         if 0<=(n:Int)∧bytesP P te*(n:Int)<=140737488355328 then mkObj o.dst st.o (.vec e []) .own [] K else none
        else none
       | none=>none
      | _,_=>none
     | _=>none
    | none=>if capsOk caps=true∧callable P f=true∧f<65536 then
      match E.hid (o.dst.getD 0) f with
      | none=>callK E O (E.vnum (o.dst.getD 0) f (args.map st.eval)) (args.map st.eval++exFs caps x) st.o (newId o.dst) K
      | some off=>hidK E O (E.vnum (o.dst.getD 0) f (args.map st.eval)) off (args.map st.eval++exFs caps x) st.o (newId o.dst) K
     else none
   | _=>none
  | _,_=>none
 | _=>none
structure Info where
 d:Option Nat
 uses:List Nat
 w:List Nat
 r:List Nat
def Operand.tmps:List Operand->List Nat
 | []=> []
 | .tmp t::r=>t::Operand.tmps r
 | _::r=>Operand.tmps r
def befores:List Oper->List Nat->List Nat
 | [],acc=>acc
 | o::r,acc=>befores r (acc++ [o.after.toList.foldl (fun s e=>if Region.binds .any e then s ||| 2 ^ e.on ||| acc.getD e.on 0 else s) 0])
def apart (a b:Info):Bool:=
 (match a.d with | some d=> !b.uses.contains d&&b.d !=some d | none=>true)&&
 (match b.d with | some d=> !a.uses.contains d | none=>true)&&
 a.w.all (fun i=> !b.w.contains i&& !b.r.contains i)&&a.r.all (fun i=> !b.w.contains i)
def commOk (bs:List Nat) (is:List Info):Bool:=
 is.zipIdx.all fun (b,j)=>is.zipIdx.all fun (a,i)=> !(i<j) || (bs.getD j 0).testBit i || apart a b
def backOk (ops:List Oper):Bool:=ops.zipIdx.all fun (o,j)=>o.after.toList.all fun e=> !Region.binds .any e || decide (e.on<j)
def guardTmp (all:Array Oper) (j:Nat):Option Nat:=(all[j]?).bind (·.dst)
def infoOf (all:Array Oper) (o:Oper) (e:Eff):Info:=
 {d:=o.dst,uses:=(match o.guard with | some (j,_)=>(guardTmp all j).toList | none=> [])++Operand.tmps o.op.operands.toList,w:=e.w,r:=e.r}
def dstB (nt:Nat) (io:List Nat):Option Nat->Bool
 | some d=>d<nt&& !io.contains d
 | none=>true
def evOps (E:Env) (O:Oracle E) (all:Array Oper) (io:List Nat) (nt:Nat):List Oper->St->List Info->(List Info->St->Option R)->Option R
 | [],st,acc,K=>K acc.reverse st
 | o::r,st,acc,K=>
  let go (st:St):Option R:=
   if dstB nt io o.dst=true then
    exOp E O o st fun e=>evOps E O all io nt r (st.app o.dst e) (infoOf all o e::acc) K
   else none
  match o.guard with
  | none=>go st
  | some (j,want)=>match guardTmp all j with
   | none=>none
   | some t=>match st.t t with
    | .one (.imm .bool b)=>
     let skip (st:St):Option R:=
      let e:Eff:= {v:= .tup [],s:=st.o}
      if dstB nt io o.dst=true then evOps E O all io nt r (st.app o.dst e) (infoOf all o e::acc) K else none
     if (b:Bool)=true then
      (if want then go (st.put t (.one (.imm .bool true))) else skip (st.put t (.one (.imm .bool true))))
     else
      (if want then skip (st.put t (.one (.imm .bool false))) else go (st.put t (.one (.imm .bool false))))
    | .tup []=>
     if dstB nt io o.dst=true then evOps E O all io nt r (st.app o.dst {v:= .tup [],s:=st.o}) (infoOf all o {v:= .tup [],s:=st.o}::acc) K else none
    | _=>none
open Classical in
def pickL {α R:Type} (xs:List α) (a:Option R) (f:α->Option R):Option R:=match xs with
 | []=>a
 | p::r=>if ∀q∈p::r,f q=f p then f p else none
def leave {α:Type} (xs:List (Int×α)) (k:Int):List (Int×α):=xs.filter fun q=> !decide (q.1=k)
def evPick (E:Env) (O:Oracle E) (all:Array Oper) (io:List Nat) (nt:Nat) (draw:Bool) (ops:List Oper) (st:St) (K:St->Option R):Option R:=
 match ops with
 | []=>none
 | o::r=>match o.op,o.guard,draw with
  | .next (.tmp t) false,none,false=>if dstB nt io o.dst=true then match st.t t with
    | .one (.mp id ver)=>match st.o id with
     | (v,.itero τ x)=>if v=ver then
       pickL x.2 (evOps E O all io nt r (st.app o.dst {v:= .tup [(false,[.imm .bool false])],s:=st.o}) [] fun _ st'=>K st')
        (fun p=>evOps E O all io nt r (st.app o.dst {v:= .tup [(false,[.imm .bool true]),(false,[.imm (.int .i64) p.1]),(false,[.imm τ p.2])],s:=st.o.set id (v,.itero τ (some p,leave x.2 p.1)),w:= [id]}) [] fun _ st'=>K st')
      else none
     | _=>none
    | _=>none
   else none
  | _,_,_=>none
inductive Ex where
 | normal
 | exit (id:Nat)
def resVs (P:Program) (st:St):List ResultVar->(List V->Option R)->Option R
 | [],K=>K []
 | .tmp t::r,K=>resVs P st r fun vs=>K (st.t t::vs)
 | .cell a t::r,K=>match st.t a with
  | .one c=>cellsAt c st.o fun cs _=>
   if okP P t=true∧(cs.take (szP P t)).length=szP P t∧(isAggP P t=false->szP P t=1) then
    resVs P st r fun vs=>K (V.ofCells (isAggP P t) (cs.take (szP P t))::vs)
   else none
  | _=>none
def ioTmps:List Bool->Nat->List Nat
 | true::r,i=>i::ioTmps r (i+1)
 | false::r,i=>ioTmps r (i+1)
 | [],_=> []
def prRet (E:Env) (f:Nat) (res:List ResultVar) (st:St):Option (E.Ret f):=
 resVs E.P st res fun vs=>
 match prFs false (E.rs f) vs st.o [] with
 | some p=>match prFs false (ioTy (E.io f) (E.ps f)) ((ioTmps (E.io f) 0).map st.t) p.s [] with
  | some q=>some (p.x,q.x)
  | none=>none
 | none=>none
structure Fn (E:Env) where
 f:Nat
 nt:Nat
 res:List ResultVar
def ev (E:Env) (O:Oracle E) (F:Fn E):Code->Nat->(R:Type)->(Ex->St->Option R)->(E.Ret F.f->Option R)->St->Option R
 | .skip,_,_,K,_,st=>K .normal st
 | .region _ ops draw,p,_,K,_,st=>match E.hint F.f p with
  | .pick=>evPick E O ops (ioTmps (E.io F.f) 0) F.nt draw ops.toList st fun st'=>K .normal st'
  | _=>evOps E O ops (ioTmps (E.io F.f) 0) F.nt ops.toList st [] fun is st'=>
   if draw=false∨(backOk ops.toList&&commOk (befores ops.toList []) is)=true then K .normal st' else none
 | .seq a b,p,R,K,KR,st=>match E.hint F.f p with
  | .cut ts τ exits al=>
   if exits=true then
    (ev E O F a (2*p) (τ.den⊕R)
     (fun e st=>match e with
      | .normal=>(prStA ts al τ st).map .inl
      | .exit i=>(K (.exit i) st).map .inr)
     (fun r=>(KR r).map .inr) st).bind fun
      | .inl x=>ev E O F b (2*p+1) R K KR (stOfA ts al τ x)
      | .inr r=>some r
   else
    (ev E O F a (2*p) τ.den
     (fun e st=>match e with
      | .normal=>prStA ts al τ st
      | .exit _=>none)
     (fun _=>none) st).bind fun x=>ev E O F b (2*p+1) R K KR (stOfA ts al τ x)
  | .force t=>ev E O F a (2*p) R (fun e st=>match e with
    | .normal=>forceK t st fun st=>ev E O F b (2*p+1) R K KR st
    | .exit i=>K (.exit i) st) KR st
  | _=>ev E O F a (2*p) R (fun e st=>match e with
    | .normal=>ev E O F b (2*p+1) R K KR st
    | .exit i=>K (.exit i) st) KR st
 | .cond c a b,p,R,K,KR,st=>match st.eval c with
  | .one (.imm .bool t)=>if (t:Bool)=true then ev E O F a (2*p) R K KR st else ev E O F b (2*p+1) R K KR st
  | _=>none
 | .block id a,p,R,K,KR,st=>ev E O F a (2*p) R (fun e st=>match e with
   | .normal=>K .normal st
   | .exit i=>if i=id then K .normal st else K (.exit i) st) KR st
 | .loop a,p,_,K,KR,st=>match E.hint F.f p with
  | .loop h=>match prStA h.ht h.hal h.hτ st with
   | none=>none
   | some x=>(O.L F.f h a x).bind fun
    | .inl y=>K (.exit h.ex) (stOfA h.ot h.oal h.oτ y)
    | .inr r=>KR r
  | _=>none
 | .exit id,_,_,K,_,st=>K (.exit id) st
 | .ret,_,_,_,KR,st=>(prRet E F.f F.res st).bind KR
 | _,_,_,_,_,_=>none
def fnOf (E:Env) (f:Nat):Option (Fn E×Code):=
 match E.P.funcs[rl f]? with
 | some fn=>match fn.body with
  | some c=>some ({f:=f,nt:=fn.ntmps,res:=fn.results.toList},c)
  | none=>none
 | none=>none
def nFs:Ty->Nat
 | .cons _ r=>nFs r+1
 | _=>0
def ioOk:List Bool->Ty->Bool
 | [],.nil=>true
 | _::io,.cons _ r=>ioOk io r
 | _,_=>false
def evFn (E:Env) (O:Oracle E) (f:Nat) (x:(E.ps f).den):Option (E.Ret f):=
 match E.ext f with
 | some g=>g x
 | none=>match fnOf E f with
  | some (F,c)=>
   if h:F.f=f∧ioOk (E.io f) (E.ps f)=true∧nFs (E.ps f)<=F.nt then
    ev E O F c 1 (E.Ret f) (fun e st=>match e with
     | .normal=>(prRet E F.f F.res st).bind fun r=>some (h.1▸r)
     | .exit _=>none) (fun r=>some (h.1▸r)) (stOf (List.range (nFs (E.ps f))) (E.ps f) x)
   else none
  | none=>none
def evLoop (E:Env) (O:Oracle E) (f:Nat) (h:LoopH) (c:Code) (x:h.hτ.den):Option (h.oτ.den⊕E.Ret f):=
 match fnOf E f with
 | some (F,_)=>
  if e:F.f=f then
   ev E O F c h.key (h.oτ.den⊕E.Ret f)
    (fun i st=>match i with
     | .normal=>(prStA h.ht h.hal h.hτ st).bind fun x=>O.L f h c x
     | .exit i=>if i=h.ex then (prStA h.ot h.oal h.oτ st).bind fun y=>some (.inl y) else none)
    (fun r=>some (.inr (e▸r))) (stOfA h.ht h.hal h.hτ x)
  else none
 | none=>none
def Φ (E:Env) (O:Oracle E):Oracle E:= {C:=evFn E O,L:=evLoop E O,H:=O.H}
def On (E:Env) (n:Nat) (h:HOr E:=noH E):Oracle E:=match n with
 | 0=> {C:=fun _ _=>none,L:=fun _ _ _ _=>none,H:=h}
 | n+1=>Φ E (On E n h)
end
abbrev Mem:=Nat->Option Go.Obj
def memOf (w:World):Mem:=fun k=>w.heap[k]?
def cellsIn (m:Mem) (b off:Nat) (cs:List Value):Prop:=
 ∃c T fr,m b=some (.cells c T fr)∧ ∀(j:Nat) (v:Value),cs[j]?=some v->c[off+j]?=some v
theorem cellsIn.mono {m m':Mem} {b off:Nat} {cs:List Value} (h:cellsIn m b off cs) (e:m' b=m b):cellsIn m' b off cs:=by
 obtain ⟨c,T,fr,h1,h2⟩:=h;exact ⟨c,T,fr,by rw [e,h1],h2⟩
theorem cellsIn.sub {m:Mem} {b off:Nat} {cs:List Value} (h:cellsIn m b off cs) (k n:Nat):cellsIn m b (off+k) ((cs.drop k).take n):=by
 obtain ⟨c,T,fr,h1,h2⟩:=h;refine ⟨c,T,fr,h1,fun j v hj=>?_⟩;rw [List.getElem?_take] at hj;split at hj
 ·rw [List.getElem?_drop] at hj;rw [Nat.add_assoc];exact h2 _ _ hj
 ·cases hj
theorem cellsIn.drop {m:Mem} {b off:Nat} {cs:List Value} (h:cellsIn m b off cs) (k:Nat):cellsIn m b (off+k) (cs.drop k):=by
 obtain ⟨c,T,fr,h1,h2⟩:=h;refine ⟨c,T,fr,h1,fun j v hj=>?_⟩;rw [List.getElem?_drop] at hj;rw [Nat.add_assoc];exact h2 _ _ hj
def RepInts (m:Mem) (N:Nat->Prop) (l:List Int) (v:Value):Prop:=
 ∃a cap,v= .slice a l.length cap∧l.length<=cap∧(l≠ []-> ∃b off,a=some ⟨b,off,none⟩∧N b∧cellsIn m b off (l.map (Value.int .i64)))
inductive RepTree (m:Mem) (N:Nat->Prop):Tree->Value->Prop
 | nil:RepTree m N .nil (.pointer none)
 | mk (op v:Int) (l r:List Int) (kids:List Tree) (b off:Nat) (lv rv:Value) (a:Option Addr) (cap:Nat) (kvs:List Value)
  (hb:N b) (hc:cellsIn m b off [.int .i64 op,.int .i64 v,lv,rv,.slice a kids.length cap])
  (hl:RepInts m N l lv) (hr:RepInts m N r rv) (hcap:kids.length<=cap) (hlen:kvs.length=kids.length)
  (hk: ∀(i:Nat) (h:i<kids.length) (h':i<kvs.length),RepTree m N kids[i] kvs[i])
  (hm:kids≠ []-> ∃b off,a=some ⟨b,off,none⟩∧N b∧cellsIn m b off kvs):
  RepTree m N (.mk op v l r kids) (.pointer (some ⟨b,off,none⟩))
def MapOk (ks:List Int) (es:Array MapEntry) (clock:Nat):Prop:=ks.Nodup∧(∀x∈es.toList,x.born<clock)∧(es.toList.map (·.born)).Nodup
def IterOk (es:Array MapEntry) (since c0 clock:Nat):Prop:=(∀x∈es.toList,x.born<since)∧since<=c0∧(es.toList.map (·.born)).Nodup∧since<=clock
def RepT (m:Mem) (N:Nat->Prop):(τ:Ty)->τ.den->List Value->List Nat->Prop
 | .bool,x,cs,F=>cs= [.bool x]∧F= []
 | .int k,x,cs,F=>cs= [.int k x]∧F= []
 | .str,x,cs,F=>cs= [.string ⟨⟨x⟩⟩]∧F= []
 | .sl e,xs,cs,F=>F= []∧ ∃(a:Option Addr) (cap:Nat) (es:List (List Value)),cs= [.slice a (List.length xs) cap]∧List.length xs<=cap∧es.length=List.length xs∧
   (∀(i:Nat) (h:i<List.length xs) (h':i<es.length),RepT m N e (xs[i]'h) es[i] [])∧
   (xs≠ []-> ∃b off,a=some ⟨b,off,none⟩∧N b∧cellsIn m b off es.flatten)
 | .own e,xs,cs,F=>(∃a,cs= [.slice a 0 0]∧xs= []∧F= [])∨
   ∃(g cap:Nat) (c:Array Value) (T:TypeId) (es:List (List Value)) (Fs:List (List Nat)),cs= [.slice (some ⟨g,0,none⟩) (List.length xs) cap]∧m g=some (.cells c T (0,0))∧
    c.size=cap*e.sz∧List.length xs<=cap∧cap<=maxLen∧es.length=List.length xs∧Fs.length=List.length xs∧
    (∀(i:Nat) (h:i<List.length xs) (h':i<es.length) (h'':i<Fs.length),RepT m N e (xs[i]'h) es[i] Fs[i])∧
    c.toList.take es.flatten.length=es.flatten∧F=g::Fs.flatten
 | .agg fs,x,cs,F=>RepT m N fs x cs F
 | .nil,_,cs,F=>cs= []∧F= []
 | .cons a r,x,cs,F=> ∃c1 c2 F1 F2,cs=c1++c2∧F=F1++F2∧RepT m N a x.1 c1 F1∧RepT m N r x.2 c2 F2
 | .ptr e,x,cs,F=>F= []∧ ∃b off es,cs= [.pointer (some ⟨b,off,none⟩)]∧N b∧RepT m N e x es []∧cellsIn m b off es
 | .box e,x,cs,F=> ∃g es T F',cs= [.pointer (some ⟨g,0,none⟩)]∧m g=some (.cells es.toArray T (0,0))∧RepT m N e x es F'∧F=g::F'
 | .fn f caps,x,cs,F=>F= []∧ ∃es,cs= [.func (.func f) #[] es.toArray]∧RepT m N caps x es []
 | .tree,x,cs,F=>F= []∧ ∃v,cs= [v]∧RepTree m N x v
 | .unk,_,cs,F=>F= []∧ ∃v,cs= [v]∧v.oneCell'=true
 | .opq,x,cs,F=>F= []∧cs= [x]∧x.oneCell'=true
 | .mv e,x,cs,F=>match x with
  | none=>F= []∧ ∃v,cs= [v]∧v.oneCell'=true
  | some (false,xs)=>F= []∧ ∃(a:Option Addr) (cap:Nat) (es:List (List Value)),cs= [.slice a (List.length xs) cap]∧List.length xs<=cap∧es.length=List.length xs∧
    (∀(i:Nat) (h:i<List.length xs) (h':i<es.length),RepT m N e (xs[i]'h) es[i] [])∧
    (xs≠ []-> ∃b off,a=some ⟨b,off,none⟩∧N b∧cellsIn m b off es.flatten)
  | some (true,xs)=>(∃a,cs= [.slice a 0 0]∧xs= []∧F= [])∨
    ∃(g cap:Nat) (c:Array Value) (T:TypeId) (es:List (List Value)) (Fs:List (List Nat)),cs= [.slice (some ⟨g,0,none⟩) (List.length xs) cap]∧m g=some (.cells c T (0,0))∧
     c.size=cap*e.sz∧List.length xs<=cap∧cap<=maxLen∧es.length=List.length xs∧Fs.length=List.length xs∧
     (∀(i:Nat) (h:i<List.length xs) (h':i<es.length) (h'':i<Fs.length),RepT m N e (xs[i]'h) es[i] Fs[i])∧
     c.toList.take es.flatten.length=es.flatten∧F=g::Fs.flatten
 | .map e,xs,cs,F=> ∃g es clock,cs= [.map (some g)]∧m g=some (.map es clock)∧es.size=List.length xs∧(∀(i:Nat) (h:i<List.length xs) (h':i<es.size),es[i].key= .int .i64 (xs[i]'h).1∧RepT m N e (xs[i]'h).2 [es[i].val] [])∧F= [g]∧MapOk (List.map Prod.fst xs) es clock
 | .imap e,xs,cs,F=>F= []∧ ∃g es clock,∃ys:List (Int×e.den),cs= [.map (some g)]∧N g∧m g=some (.map es clock)∧es.size=ys.length∧(∀(i:Nat) (h:i<ys.length) (h':i<es.size),es[i].key= .int .i64 (ys[i]'h).1∧RepT m N e (ys[i]'h).2 [es[i].val] [])∧MapOk (List.map Prod.fst ys) es clock∧List.Perm ys xs
 | .optr e,x,cs,F=>match x with
  | none=>F= []∧cs= [.pointer none]
  | some y=>F= []∧ ∃b off es,cs= [.pointer (some ⟨b,off,none⟩)]∧N b∧RepT m N e y es []∧cellsIn m b off es
 | .sb T te,x,cs,F=> ∃(g:Nat) (p v:Value) (F':List Nat),cs= [.pointer (some ⟨g,0,none⟩)]∧m g=some (.cells #[p,v] T (0,0))∧(p= .pointer none∨p= .pointer (some ⟨g,0,none⟩))∧F=g::F'∧
   ((v= .slice none 0 0∧x= []∧F'= [])∨ ∃(k cap:Nat) (c:Array Value),v= .slice (some ⟨k,0,none⟩) (List.length x) cap∧m k=some (.cells c te (0,0))∧x≠ []∧c.size=cap∧List.length x<=cap∧cap<=maxLen∧c.toList.take (List.length x)=List.map (fun b:UInt8=>Value.int .u8 b.toNat) x∧F'= [k])
 | .iter e,x,cs,F=> ∃g r es clock since seen c0,∃ys:List (Int×e.den),cs= [.pointer (some ⟨r,0,none⟩)]∧F= [r]∧m r=some (.mapIter (some g) since seen c0)∧N g∧m g=some (.map es clock)∧IterOk es since c0 clock∧(leftOf es seen).toList.length=ys.length∧
   (∀(i:Nat) (h:i<ys.length) (h':i<(leftOf es seen).toList.length),(leftOf es seen).toList[i].key= .int .i64 (ys[i]'h).1∧RepT m N e (ys[i]'h).2 [(leftOf es seen).toList[i].val] [])∧(List.map Prod.fst ys).Nodup∧List.Perm ys (Prod.snd x)∧
   (∀p:Int×e.den,Prod.fst x=some p-> ∃k s0,k∈es.toList∧seen=Array.push s0 k.born∧c0=clock∧k.key= .int .i64 p.1∧RepT m N e p.2 [k.val] [])
theorem RepT.len {m:Mem} {N:Nat->Prop}: ∀ {τ:Ty} {x:τ.den} {cs:List Value} {F:List Nat},RepT m N τ x cs F->cs.length=τ.sz
 | .bool,_,_,_,h | .int _,_,_,_,h | .str,_,_,_,h | .nil,_,_,_,h=>by rw [h.1];rfl
 | .sl _,_,_,_,⟨_,_,_,_,h,_⟩=>by rw [h];rfl
 | .own _,_,_,_,h=>by
  rcases h with ⟨_,h,_⟩ | ⟨_,_,_,_,_,_,h,_⟩<;>rw [h]<;>rfl
 | .agg fs,_,_,_,h=>RepT.len (τ:=fs) h
 | .cons _ _,_,_,_,⟨c1,c2,_,_,h,_,h1,h2⟩=>by rw [h,qL,RepT.len h1,RepT.len h2];rfl
 | .ptr _,_,_,_,⟨_,_,_,_,h,_⟩=>by rw [h];rfl
 | .box _,_,_,_,⟨_,_,_,_,h,_⟩=>by rw [h];rfl
 | .fn _ _,_,_,_,⟨_,_,h,_⟩=>by rw [h];rfl
 | .tree,_,_,_,⟨_,_,h,_⟩=>by rw [h];rfl
 | .unk,_,_,_,⟨_,_,h,_⟩=>by rw [h];rfl
 | .opq,_,_,_,⟨_,h,_⟩=>by rw [h];rfl
 | .map _,_,_,_,⟨_,_,_,h,_⟩=>by rw [h];rfl
 | .imap _,_,_,_,⟨_,_,_,_,_,h,_⟩=>by rw [h];rfl
 | .iter _,_,_,_,⟨_,_,_,_,_,_,_,_,h,_⟩=>by rw [h];rfl
 | .sb _ _,_,_,_,⟨_,_,_,_,h,_⟩=>by rw [h];rfl
 | .optr _,none,_,_,⟨_,h⟩=>by rw [h];rfl
 | .optr _,some _,_,_,⟨_,_,_,_,h,_⟩=>by rw [h];rfl
 | .mv _,none,_,_,⟨_,_,h,_⟩=>by rw [h];rfl
 | .mv e,some (false,xs),_,_,⟨_,_,_,_,h,_⟩=>by rw [h];rfl
 | .mv e,some (true,xs),_,_,h=>by
  rcases h with ⟨_,h,_⟩ | ⟨_,_,_,_,_,_,h,_⟩<;>rw [h]<;>rfl
theorem RepT.one' {m:Mem} {N:Nat->Prop}: ∀ {τ:Ty} {x:τ.den} {cs:List Value} {F:List Nat},RepT m N τ x cs F-> ∀v∈cs,v.oneCell'=true
 | .bool,_,_,_,h,v,hv | .int _,_,_,_,h,v,hv | .str,_,_,_,h,v,hv=>by rw [h.1] at hv;simp at hv;subst hv;rfl
 | .nil,_,_,_,h,v,hv=>by rw [h.1] at hv;simp at hv
 | .sl _,_,_,_,⟨_,_,_,_,h,_⟩,v,hv=>by rw [h] at hv;simp at hv;subst hv;rfl
 | .own _,_,_,_,h,v,hv=>by
  rcases h with ⟨_,h,_⟩ | ⟨_,_,_,_,_,_,h,_⟩<;>(rw [h] at hv;simp at hv;subst hv;rfl)
 | .agg fs,_,_,_,h,v,hv=>RepT.one' (τ:=fs) h v hv
 | .cons _ _,_,_,_,⟨c1,c2,_,_,h,_,h1,h2⟩,v,hv=>by
  rw [h] at hv;rcases qr.1 hv with hv | hv
  ·exact RepT.one' h1 v hv
  ·exact RepT.one' h2 v hv
 | .ptr _,_,_,_,⟨_,_,_,_,h,_⟩,v,hv=>by rw [h] at hv;simp at hv;subst hv;rfl
 | .box _,_,_,_,⟨_,_,_,_,h,_⟩,v,hv=>by rw [h] at hv;simp at hv;subst hv;rfl
 | .fn _ _,_,_,_,⟨_,_,h,_⟩,v,hv=>by rw [h] at hv;simp at hv;subst hv;rfl
 | .tree,_,_,_,⟨_,u,h,ht⟩,v,hv=>by
  rw [h] at hv;simp at hv;subst hv
  cases ht<;>rfl
 | .unk,_,_,_,⟨_,u,h,ht⟩,v,hv=>by rw [h] at hv;simp at hv;subst hv;exact ht
 | .opq,_,_,_,⟨_,h,ht⟩,v,hv=>by rw [h] at hv;simp at hv;subst hv;exact ht
 | .map _,_,_,_,⟨_,_,_,h,_⟩,v,hv=>by rw [h] at hv;simp at hv;subst hv;rfl
 | .imap _,_,_,_,⟨_,_,_,_,_,h,_⟩,v,hv=>by rw [h] at hv;simp at hv;subst hv;rfl
 | .iter _,_,_,_,⟨_,_,_,_,_,_,_,_,h,_⟩,v,hv=>by rw [h] at hv;simp at hv;subst hv;rfl
 | .sb _ _,_,_,_,⟨_,_,_,_,h,_⟩,v,hv=>by rw [h] at hv;simp at hv;subst hv;rfl
 | .optr _,none,_,_,⟨_,h⟩,v,hv=>by rw [h] at hv;simp at hv;subst hv;rfl
 | .optr _,some _,_,_,⟨_,_,_,_,h,_⟩,v,hv=>by rw [h] at hv;simp at hv;subst hv;rfl
 | .mv _,none,_,_,⟨_,_,h,ht⟩,v,hv=>by rw [h] at hv;simp at hv;subst hv;exact ht
 | .mv _,some (false,_),_,_,⟨_,_,_,_,h,_⟩,v,hv=>by rw [h] at hv;simp at hv;subst hv;rfl
 | .mv _,some (true,_),_,_,h,v,hv=>by
  rcases h with ⟨_,h,_⟩ | ⟨_,_,_,_,_,_,h,_⟩<;>(rw [h] at hv;simp at hv;subst hv;rfl)
theorem RepInts.mono {m m':Mem} {N N':Nat->Prop} (hN: ∀b,N b->N' b∧m' b=m b) {l:List Int} {v:Value} (h:RepInts m N l v):RepInts m' N' l v:=by
 obtain ⟨a,cap,h1,h2,h3⟩:=h;refine ⟨a,cap,h1,h2,fun hn=>?_⟩;obtain ⟨b,off,e,hb,hc⟩:=h3 hn;exact ⟨b,off,e,(hN b hb).1,hc.mono (hN b hb).2⟩
theorem RepTree.mono {m m':Mem} {N N':Nat->Prop} (hN: ∀b,N b->N' b∧m' b=m b) {t:Tree} {v:Value} (h:RepTree m N t v):RepTree m' N' t v:=by
 induction h with
 | nil=>exact .nil
 | mk op v l r kids b off lv rv a cap kvs hb hc hl hr hcap hlen hk hm ih=>
  refine .mk op v l r kids b off lv rv a cap kvs (hN b hb).1 (hc.mono (hN b hb).2) (hl.mono hN) (hr.mono hN) hcap hlen (fun i h h'=>ih i h h') (fun hn=>?_);obtain ⟨b',off',e,hb',hc'⟩:=hm hn;exact ⟨b',off',e,(hN b' hb').1,hc'.mono (hN b' hb').2⟩
theorem RepT.mono {m m':Mem} {N N':Nat->Prop} (hN: ∀b,N b->N' b∧m' b=m b): ∀ {τ:Ty} {x:τ.den} {cs:List Value} {F:List Nat},(∀g∈F,m' g=m g)->RepT m N τ x cs F->RepT m' N' τ x cs F
 | .bool,_,_,_,_,h | .int _,_,_,_,_,h | .str,_,_,_,_,h | .nil,_,_,_,_,h=>h
 | .sl e,xs,_,_,_,⟨h0,a,cap,es,h1,h2,h3,h4,h5⟩=>by
  refine ⟨h0,a,cap,es,h1,h2,h3,fun i hi hi'=>RepT.mono hN (by simp) (h4 i hi hi'),fun hn=>?_⟩;obtain ⟨b,off,e,hb,hc⟩:=h5 hn
  exact ⟨b,off,e,(hN b hb).1,hc.mono (hN b hb).2⟩
 | .own e,xs,_,_,hF,h=>by
  rcases h with h | ⟨g,cap,c,T,es,Fs,h1,h2,h3,h4,h5,h6,h7,h8,h9,rfl⟩
  ·exact .inl h
  ·refine .inr ⟨g,cap,c,T,es,Fs,h1,by rw [hF g (by simp),h2],h3,h4,h5,h6,h7,fun i hi hi' hi''=>RepT.mono hN (fun k hk=>hF k ?_) (h8 i hi hi' hi''),h9,rfl⟩
   exact qn _ (List.mem_flatten.2 ⟨_,qi hi'',hk⟩)
 | .agg fs,_,_,_,hF,h=>RepT.mono (τ:=fs) hN hF h
 | .cons a r,_,_,_,hF,⟨c1,c2,F1,F2,h1,h2,h3,h4⟩=>by
  subst h2
  exact ⟨c1,c2,F1,F2,h1,rfl,RepT.mono hN (fun g hg=>hF g (qw _ hg)) h3,RepT.mono hN (fun g hg=>hF g (qB _ hg)) h4⟩
 | .ptr e,_,_,_,_,⟨h0,b,off,es,h1,h2,h3,h4⟩=>⟨h0,b,off,es,h1,(hN b h2).1,RepT.mono hN (by simp) h3,h4.mono (hN b h2).2⟩
 | .box e,_,_,_,hF,⟨g,es,T,F',h1,h2,h3,h4⟩=>by
  subst h4
  exact ⟨g,es,T,F',h1,by rw [hF g (by simp),h2],RepT.mono hN (fun k hk=>hF k (qn _ hk)) h3,rfl⟩
 | .fn f caps,_,_,_,_,⟨h0,es,h1,h2⟩=>⟨h0,es,h1,RepT.mono hN (by simp) h2⟩
 | .tree,_,_,_,_,⟨h0,v,h1,h2⟩=>⟨h0,v,h1,h2.mono hN⟩
 | .unk,_,_,_,_,h | .opq,_,_,_,_,h=>h
 | .mv e,none,_,_,_,h=>h
 | .mv e,some (false,xs),_,_,_,⟨h0,a,cap,es,h1,h2,h3,h4,h5⟩=>by
  refine ⟨h0,a,cap,es,h1,h2,h3,fun i hi hi'=>RepT.mono hN (by simp) (h4 i hi hi'),fun hn=>?_⟩;obtain ⟨b,off,e,hb,hc⟩:=h5 hn
  exact ⟨b,off,e,(hN b hb).1,hc.mono (hN b hb).2⟩
 | .mv e,some (true,xs),_,_,hF,h=>by
  rcases h with h | ⟨g,cap,c,T,es,Fs,h1,h2,h3,h4,h5,h6,h7,h8,h9,rfl⟩
  ·exact .inl h
  ·refine .inr ⟨g,cap,c,T,es,Fs,h1,by rw [hF g (by simp),h2],h3,h4,h5,h6,h7,fun i hi hi' hi''=>RepT.mono hN (fun k hk=>hF k ?_) (h8 i hi hi' hi''),h9,rfl⟩
   exact qn _ (List.mem_flatten.2 ⟨_,qi hi'',hk⟩)
 | .map e,_,_,_,hF,⟨g,es,clock,h1,h2,h3,h4,h5,h6⟩=>by
  subst h5
  exact ⟨g,es,clock,h1,by rw [hF g (by simp),h2],h3,fun i h h'=>⟨(h4 i h h').1,RepT.mono hN (by simp) (h4 i h h').2⟩,rfl,h6⟩
 | .sb T te,_,_,_,hF,⟨g,p,v,F',h1,h2,h3,h4,h5⟩=>by
  subst h4;refine ⟨g,p,v,F',h1,by rw [hF g (by simp),h2],h3,rfl,?_⟩;rcases h5 with h5 | ⟨k,cap,c,h6,h7,h8⟩
  ·exact .inl h5
  ·refine .inr ⟨k,cap,c,h6,?_,h8⟩
   rw [hF k (by rw [h8.2.2.2.2.2];simp),h7]
 | .optr e,none,_,_,_,h=>h
 | .optr e,some y,_,_,_,⟨h0,b,off,es,h1,h2,h3,h4⟩=>⟨h0,b,off,es,h1,(hN b h2).1,RepT.mono hN (by simp) h3,h4.mono (hN b h2).2⟩
 | .iter e,_,_,_,hF,⟨g,r,es,clock,since,seen,c0,ys,h1,h2,h3,h4,h5,h6,h7,h8,h9,h10,h11⟩=>
  ⟨g,r,es,clock,since,seen,c0,ys,h1,h2,by rw [hF r (by rw [h2];simp),h3],(hN g h4).1,by rw [(hN g h4).2,h5],h6,h7,fun i h h'=>⟨(h8 i h h').1,RepT.mono hN (by simp) (h8 i h h').2⟩,h9,h10,fun p hp=>by
   obtain ⟨k,s0,k1,k2,k3,k4,k5⟩:=h11 p hp
   exact ⟨k,s0,k1,k2,k3,k4,RepT.mono hN (by simp) k5⟩⟩
 | .imap e,_,_,_,_,⟨h0,g,es,clock,ys,h1,hb,h2,h3,h4,h5,h6⟩=>
  ⟨h0,g,es,clock,ys,h1,(hN g hb).1,by rw [(hN g hb).2,h2],h3,fun i h h'=>⟨(h4 i h h').1,RepT.mono hN (by simp) (h4 i h h').2⟩,h5,h6⟩
theorem RepT.imm {m:Mem} {N:Nat->Prop}: ∀ {τ:Ty} {x:τ.den} {cs:List Value} {F:List Nat},τ.isImm=true->RepT m N τ x cs F->F= []
 | .bool,_,_,_,_,h | .int _,_,_,_,_,h | .str,_,_,_,_,h | .nil,_,_,_,_,h=>h.2
 | .sl e,xs,_,_,_,⟨h0,_⟩=>h0
 | .own e,xs,_,_,hF,h=>by simp [Ty.isImm] at hF
 | .agg fs,_,_,_,hF,h=>RepT.imm (τ:=fs) hF h
 | .cons a r,_,_,_,hF,⟨c1,c2,F1,F2,h1,h2,h3,h4⟩=>by
  simp only [Ty.isImm,qq] at hF
  rw [h2,RepT.imm hF.1 h3,RepT.imm hF.2 h4];rfl
 | .ptr e,_,_,_,_,⟨h0,_⟩=>h0
 | .box e,_,_,_,hF,h=>by simp [Ty.isImm] at hF
 | .fn f caps,_,_,_,_,⟨h0,_⟩=>h0
 | .tree,_,_,_,_,⟨h0,_⟩=>h0
 | .unk,_,_,_,_,⟨h0,_⟩ | .opq,_,_,_,_,⟨h0,_⟩=>h0
 | .imap _,_,_,_,_,⟨h0,_⟩=>h0
 | .optr _,none,_,_,_,⟨h0,_⟩=>h0
 | .optr _,some _,_,_,_,⟨h0,_⟩=>h0
 | .map _,_,_,_,hF,_ | .mv _,_,_,_,hF,_ | .iter _,_,_,_,hF,_ | .sb _ _,_,_,_,hF,_=>by simp [Ty.isImm] at hF
def subV (hd:Value) (sz lo hi:Nat):Value:=match hd with
 | .slice a _ cap=> .slice (if cap=lo then a else a.map (·.add (lo*sz))) (hi-lo) (cap-lo)
 | v=>v
def Obj.esz:Obj->Nat
 | .vec e _ | .fvec e _ | .lvec e _ | .ovec e _=>e.sz
 | .hvec e _ _ _ _ _ _=>e.sz
 | _=>0
def Obj.vlen:Obj->Nat
 | .vec _ xs | .fvec _ xs | .lvec _ xs | .ovec _ xs=>List.length xs
 | .hvec _ xs _ _ _ _ _=>List.length xs
 | _=>0
def Wand (m:Mem) (N:Nat->Prop) (e:Ty) (xs:List e.den) (i off:Nat) (x:e.den) (h v0:Value) (Fa Fb:List Nat):Prop:=
 ∀(m':Mem) (N':Nat->Prop),(∀b,N b->N' b∧m' b=m b)->(∀k∈Fa++Fb,m' k=m k)-> ∀(σ:Ty) (ys:List σ.den) (G:List Nat) (x':e.den),
  RepT m' N' (.own σ) ys [v0] G->setAt e x off σ ys=some x'->RepT m' N' (.own e) (xs.set i x') [h] (Fa++(G++Fb))
theorem Wand.mono {m m':Mem} {N N':Nat->Prop} (hN: ∀b,N b->N' b∧m' b=m b) {e:Ty} {xs:List e.den} {i off:Nat} {x:e.den} {h v0:Value} {Fa Fb:List Nat} (hF: ∀k∈Fa++Fb,m' k=m k) (hw:Wand m N e xs i off x h v0 Fa Fb):Wand m' N' e xs i off x h v0 Fa Fb:=
 fun m2 N2 hN2 hF2 σ ys G x' hr hx=>hw m2 N2 (fun b hb=>⟨(hN2 b (hN b hb).1).1,(hN2 b (hN b hb).1).2.trans (hN b hb).2⟩) (fun k hk=>(hF2 k hk).trans (hF k hk)) σ ys G x' hr hx
section
variable (m : Mem) (N : Nat -> Prop) (s : Sto) (hd : Nat -> Value)
def RepC:C->Value->Prop
 | .imm τ x,v=>RepT m N τ x [v] []
 | .iptr τ x off,v=> ∃b o es,v= .pointer (some ⟨b,o+off,none⟩)∧N b∧RepT m N τ x es []∧cellsIn m b o es
 | .e0,v=> ∃a,v= .slice a 0 0
 | .nilp,v=>v= .pointer none
 | .own id ver,v=>ver<=(s id).1∧v.oneCell'=true∧((s id).1=ver->(s id).2.isV=true->v=hd id)
 | .sub id ver lo hi,v=>ver<=(s id).1∧v.oneCell'=true∧((s id).1=ver->(s id).2.isV=true->v=subV (hd id) (s id).2.esz lo hi∧lo<=hi∧hi<=(s id).2.vlen)
 | .bp id ver off,v=>ver<=(s id).1∧v.oneCell'=true∧((s id).1=ver->(s id).2.isB=true-> ∃g,hd id= .pointer (some ⟨g,0,none⟩)∧v= .pointer (some ⟨g,off,none⟩))
 | .mp id ver,v=>ver<=(s id).1∧v.oneCell'=true∧((s id).1=ver->(s id).2.isB=true->v=hd id)
 | .ep id ver i off,v=>ver<=(s id).1∧v.oneCell'=true∧((s id).1=ver->(s id).2.isV=true-> ∃g len cap,hd id= .slice (some ⟨g,0,none⟩) len cap∧v= .pointer (some ⟨g,i*(s id).2.esz+off,none⟩))
def RepCs:List C->List Value->Prop
 | [],[]=>True
 | c::cs,v::vs=>RepC m N s hd c v∧RepCs cs vs
 | _,_=>False
def RepP:Bool×List C->Value->Prop
 | (true,cs),v=> ∃vs,v= .agg ⟨vs⟩∧RepCs m N s hd cs vs
 | (false,[c]),v=>RepC m N s hd c v
 | _,_=>False
def RepPs:List (Bool×List C)->List Value->Prop
 | [],[]=>True
 | p::ps,v::vs=>RepP m N s hd p v∧RepPs ps vs
 | _,_=>False
def RepV:V->Value->Prop
 | .one c,v=>RepC m N s hd c v
 | .agg cs,v=> ∃vs,v= .agg ⟨vs⟩∧RepCs m N s hd cs vs
 | .tup ps,v=> ∃vs,v= .tuple ⟨vs⟩∧RepPs m N s hd ps vs
 | .undef,_=>True
def ObjRep:Obj->Value->List Nat->Prop
 | .dead,_,F=>F= []
 | .vec e xs,h,F | .lvec e xs,h,F=>RepT m N (.own e) xs [h] F
 | .fvec e xs,h,F=>F= []∧RepT m N (.sl e) xs [h] []
 | .box cs,h,F=> ∃g vs T,h= .pointer (some ⟨g,0,none⟩)∧m g=some (.cells ⟨vs⟩ T (0,0))∧RepCs m N s hd cs vs∧F= [g]
 | .fbox τ x,h,F=>F= []∧RepT m N (.ptr τ) x [h] []∧ ∃g,h= .pointer (some ⟨g,0,none⟩)
 | .ovec _ xs,h,F=>F= []∧ ∃a cap,h= .slice a (List.length xs) cap
 | .hvec e xs i x off id' ver',h,F=> ∃(v0:Value) (Fa Fb:List Nat),xs[i]?=some x∧RepC m N s hd (.own id' ver') v0∧F=Fa++Fb∧(∃g cap,h= .slice (some ⟨g,0,none⟩) (List.length xs) cap)∧Wand m N e xs i off x h v0 Fa Fb
 | .obox,h,F=>F= []∧ ∃g,h= .pointer (some ⟨g,0,none⟩)
 | .mapo τ xs,h,F=>RepT m N (.map τ) xs [h] F
 | .omap,h,F=>F= []∧ ∃g,h= .map (some g)
 | .itero τ x,h,F=>RepT m N (.iter τ) x [h] F
 | .sbo T te x,h,F=>RepT m N (.sb T te) x [h] F
end
structure SInv (m:Mem) (N:Nat->Prop) (s:Sto) (hd:Nat->Value) (F:Nat->List Nat) (size:Nat):Prop where
 obj: ∀id,ObjRep m N s hd (s id).2 (hd id) (F id)
 once: ∀i j k,k∈F i->k∈F j->i=j
 nodup: ∀i,(F i).Nodup
 sep: ∀i k,k∈F i-> ¬N k
 ltF: ∀i k,k∈F i->k<size
 ltN: ∀k,N k->k<size
structure Goes (s s':Sto) (hd hd':Nat->Value):Prop where
 ver: ∀id,(s id).1<=(s' id).1
 vec: ∀id,(s' id).1=(s id).1->(s' id).2.isV=true->(s id).2.isV=true∧hd' id=hd id∧(s' id).2.esz=(s id).2.esz∧(s id).2.vlen<=(s' id).2.vlen
 box: ∀id,(s' id).1=(s id).1->(s' id).2.isB=true->(s id).2.isB=true∧hd' id=hd id
theorem Goes.refl (s:Sto) (hd:Nat->Value):Goes s s hd hd:=⟨fun _=>ql _,fun _ _ h=>⟨h,rfl,rfl,ql _⟩,fun _ _ h=>⟨h,rfl⟩⟩
theorem Goes.trans {s s' s'':Sto} {hd hd' hd'':Nat->Value} (h:Goes s s' hd hd') (h':Goes s' s'' hd' hd''):Goes s s'' hd hd'':=by
 refine ⟨fun id=>Nat.le_trans (h.ver id) (h'.ver id),fun id e hv=>?_,fun id e hv=>?_⟩
 ·have h1:=h.ver id;have h2:=h'.ver id;obtain ⟨a1,a2,a3,a4⟩:=h'.vec id (by omega) hv;obtain ⟨b1,b2,b3,b4⟩:=h.vec id (by omega) a1;exact ⟨b1,a2.trans b2,a3.trans b3,Nat.le_trans b4 a4⟩
 ·have h1:=h.ver id;have h2:=h'.ver id;obtain ⟨a1,a2⟩:=h'.box id (by omega) hv;obtain ⟨b1,b2⟩:=h.box id (by omega) a1;exact ⟨b1,a2.trans b2⟩
theorem RepC.goes {m m':Mem} {N N':Nat->Prop} {s s':Sto} {hd hd':Nat->Value} (hN: ∀b,N b->N' b∧m' b=m b) (g:Goes s s' hd hd'):
  ∀ {c:C} {v:Value},RepC m N s hd c v->RepC m' N' s' hd' c v
 | .imm _ _,_,h=>RepT.mono hN (by simp) h
 | .iptr _ _ _,_,⟨b,o,es,h1,h2,h3,h4⟩=>⟨b,o,es,h1,(hN b h2).1,RepT.mono hN (by simp) h3,h4.mono (hN b h2).2⟩
 | .e0,_,h | .nilp,_,h=>h
 | .own id ver,_,⟨h1,h0,h2⟩=>by
  have hv:=g.ver id;refine ⟨by omega,h0,fun e hv'=>?_⟩;obtain ⟨a1,a2,_⟩:=g.vec id (by omega) hv'
  rw [a2];exact h2 (by omega) a1
 | .sub id ver lo hi,_,⟨h1,h0,h2⟩=>by
  have hv:=g.ver id;refine ⟨by omega,h0,fun e hv'=>?_⟩;obtain ⟨a1,a2,a3,a4⟩:=g.vec id (by omega) hv';obtain ⟨b1,b2,b3⟩:=h2 (by omega) a1
  exact ⟨by rw [a2,a3];exact b1,b2,Nat.le_trans b3 a4⟩
 | .bp id ver off,_,⟨h1,h0,h2⟩=>by
  have hv:=g.ver id;refine ⟨by omega,h0,fun e hv'=>?_⟩;obtain ⟨a1,a2⟩:=g.box id (by omega) hv'
  rw [a2];exact h2 (by omega) a1
 | .mp id ver,_,⟨h1,h0,h2⟩=>by
  have hv:=g.ver id;refine ⟨by omega,h0,fun e hv'=>?_⟩;obtain ⟨a1,a2⟩:=g.box id (by omega) hv'
  rw [a2];exact h2 (by omega) a1
 | .ep id ver i off,_,⟨h1,h0,h2⟩=>by
  have hv:=g.ver id;refine ⟨by omega,h0,fun e hv'=>?_⟩;obtain ⟨a1,a2,a3,_⟩:=g.vec id (by omega) hv';rw [a2,a3];exact h2 (by omega) a1
section
variable {m m' : Mem} {N N' : Nat -> Prop} {s s' : Sto} {hd hd' : Nat -> Value} (hN : ∀ b, N b -> N' b ∧ m' b = m b) (g : Goes s s' hd hd')
include hN g
theorem RepCs.goes: ∀ {cs:List C} {vs:List Value},RepCs m N s hd cs vs->RepCs m' N' s' hd' cs vs
 | [],[],_=>trivial
 | _::_,_::_,⟨h1,h2⟩=>⟨RepC.goes hN g h1,RepCs.goes h2⟩
theorem RepP.goes: ∀ {p:Bool×List C} {v:Value},RepP m N s hd p v->RepP m' N' s' hd' p v
 | (true,_),_,⟨vs,h1,h2⟩=>⟨vs,h1,RepCs.goes hN g h2⟩
 | (false,[_]),_,h=>RepC.goes (c:=_) hN g h
theorem RepPs.goes: ∀ {ps:List (Bool×List C)} {vs:List Value},RepPs m N s hd ps vs->RepPs m' N' s' hd' ps vs
 | [],[],_=>trivial
 | _::_,_::_,⟨h1,h2⟩=>⟨RepP.goes hN g h1,RepPs.goes h2⟩
theorem RepV.goes: ∀ {v:V} {u:Value},RepV m N s hd v u->RepV m' N' s' hd' v u
 | .one _,_,h=>RepC.goes (c:=_) hN g h
 | .agg _,_,⟨vs,h1,h2⟩=>⟨vs,h1,RepCs.goes hN g h2⟩
 | .tup _,_,⟨vs,h1,h2⟩=>⟨vs,h1,RepPs.goes hN g h2⟩
 | .undef,_,_=>trivial
end
section
variable {m : Mem} {N : Nat -> Prop} {s : Sto} {hd : Nat -> Value}
theorem RepCs.len: ∀ {cs:List C} {vs:List Value},RepCs m N s hd cs vs->vs.length=cs.length
 | [],[],_=>rfl
 | _::_,_::_,⟨_,h⟩=>by simp [RepCs.len h]
theorem RepCs.append: ∀ {a b:List C} {u v:List Value},RepCs m N s hd a u->RepCs m N s hd b v->RepCs m N s hd (a++b) (u++v)
 | [],_,[],_,_,h=>h
 | _::_,_,_::_,_,⟨h1,h2⟩,h=>⟨h1,RepCs.append h2 h⟩
theorem RepCs.drop: ∀ {n:Nat} {cs:List C} {vs:List Value},RepCs m N s hd cs vs->RepCs m N s hd (cs.drop n) (vs.drop n)
 | 0,_,_,h=>h
 | n+1,[],[],_=>trivial
 | n+1,_::_,_::_,⟨_,h⟩=>RepCs.drop (n:=n) h
theorem RepCs.take: ∀ {n:Nat} {cs:List C} {vs:List Value},RepCs m N s hd cs vs->RepCs m N s hd (cs.take n) (vs.take n)
 | 0,_,_,_=>trivial
 | n+1,[],[],_=>trivial
 | n+1,_::_,_::_,⟨h0,h⟩=>⟨h0,RepCs.take (n:=n) h⟩
theorem RepCs.get: ∀ {i:Nat} {cs:List C} {vs:List Value} {c:C},RepCs m N s hd cs vs->cs[i]?=some c-> ∃v,vs[i]?=some v∧RepC m N s hd c v
 | _,[],_,_,_,h=>by simp at h
 | 0,_::_,v::_,_,⟨h0,_⟩,h=>by simp at h;subst h;exact ⟨v,by simp,h0⟩
 | i+1,_::_,_::_,_,⟨_,h'⟩,h=>by simp at h;simpa using RepCs.get h' h
theorem ztj: ∀ {τ:Ty} {x:τ.den} {cs:List Value},τ.isImm=true->RepT m N τ x cs []->RepCs m N s hd (ex τ x) cs
 | .agg fs,_,_,hi,h=>ztj (τ:=fs) hi h
 | .nil,_,_,_,h=>by rw [h.1];trivial
 | .cons a r,_,_,hi,⟨c1,c2,F1,F2,h1,h2,h3,h4⟩=>by
  simp only [Ty.isImm,qq] at hi;have e1:=RepT.imm hi.1 h3;have e2:=RepT.imm hi.2 h4;subst e1;subst e2
  rw [h1];exact (ztj hi.1 h3).append (ztj hi.2 h4)
 | .ptr e,x,_,_,⟨_,b,off,es,h1,h2,h3,h4⟩=>by
  rw [h1];exact ⟨⟨b,off,es,rfl,h2,h3,h4⟩,trivial⟩
 | .own _,_,_,hi,_ | .box _,_,_,hi,_ | .map _,_,_,hi,_ | .mv _,_,_,hi,_ | .iter _,_,_,hi,_ | .sb _ _,_,_,hi,_=>by simp [Ty.isImm] at hi
 | .opq,x,cs,_,h=>by
  have h':=h;obtain ⟨_,e,_⟩:=h
  subst e;exact ⟨h',trivial⟩
 | .imap _,x,cs,_,h=>by
  have h':=h;obtain ⟨_,_,_,_,_,e,_⟩:=h
  subst e;exact ⟨h',trivial⟩
 | .optr _,none,cs,_,h=>by
  have h':=h;obtain ⟨_,e⟩:=h
  subst e;exact ⟨h',trivial⟩
 | .optr _,some _,cs,_,h=>by
  have h':=h;obtain ⟨_,_,_,_,e,_⟩:=h
  subst e;exact ⟨h',trivial⟩
 | .unk,x,cs,_,h=>by
  have h':=h;obtain ⟨_,_,e,_⟩:=h
  subst e;exact ⟨h',trivial⟩
 | .bool,x,cs,_,h=>by have e:=h.1;subst e;exact ⟨⟨rfl,rfl⟩,trivial⟩
 | .int k,x,cs,_,h=>by have e:=h.1;subst e;exact ⟨⟨rfl,rfl⟩,trivial⟩
 | .str,x,cs,_,h=>by have e:=h.1;subst e;exact ⟨⟨rfl,rfl⟩,trivial⟩
 | .sl e,x,cs,_,h=>by
  have h':=h;obtain ⟨_,_,_,_,e,_⟩:=h
  subst e;exact ⟨h',trivial⟩
 | .fn f caps,x,cs,_,h=>by
  have h':=h;obtain ⟨_,_,e,_⟩:=h
  subst e;exact ⟨h',trivial⟩
 | .tree,x,cs,_,h=>by
  have h':=h;obtain ⟨_,_,e,_⟩:=h;subst e;exact ⟨h',trivial⟩
end
theorem RepC.one' {m:Mem} {N:Nat->Prop} {s:Sto} {hd:Nat->Value}: ∀ {c:C} {v:Value},RepC m N s hd c v->v.oneCell'=true
 | .imm _ _,v,h=>RepT.one' h v (by simp)
 | .iptr _ _ _,_,⟨_,_,_,h,_⟩=>by rw [h];rfl
 | .e0,_,⟨_,h⟩=>by rw [h];rfl
 | .nilp,_,h=>by rw [show _=Value.pointer none from h];rfl
 | .own _ _,_,h | .sub _ _ _ _,_,h | .bp _ _ _,_,h | .ep _ _ _ _,_,h | .mp _ _,_,h=>h.2.1
theorem RepCs.one' {m:Mem} {N:Nat->Prop} {s:Sto} {hd:Nat->Value}: ∀ {cs:List C} {vs:List Value},RepCs m N s hd cs vs-> ∀v∈vs,v.oneCell'=true
 | [],[],_,v,h=>by simp at h
 | _::_,_::_,⟨h1,h2⟩,v,h=>by
  rcases qz.1 h with rfl | h
  ·exact RepC.one' h1
  ·exact RepCs.one' h2 v h
end Go.Proofs.YtchkojfhcdcnmaaGreatMd.Ev
