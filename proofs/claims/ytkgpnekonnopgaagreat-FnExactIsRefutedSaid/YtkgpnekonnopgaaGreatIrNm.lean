/- A text of its own: Nm; no condition but those that each theorem names. -/
import Derived.Test.YtkgpnekonnopgaaGreatIrEnv
import Derived.Test.YtkgpnekonnopgaaGreatIrEvWt
namespace Go.Proofs.YtkgpnekonnopgaaGreatIr.Ev
open Go Go.IntKind
set_option maxRecDepth 100000
set_option autoImplicit false
set_option linter.unusedVariables false
abbrev Ya := Bool × (List Int) × (List Int) × Unit
abbrev Yb := List Int
abbrev Yc := (Bool × Unit) × (Unit)
abbrev Yd := Int × Yb × Yb × (List Ya) × Unit
abbrev Ye := (Int × Unit) × (Unit)
abbrev Yf := List Ya
abbrev Yg := Yb × Unit
abbrev Yh := ((List Yb) × Unit) × (Unit)
abbrev Yi := ((List Yb) × Bool × Unit) × (Unit)
abbrev Yj := (Yf × Unit) × (Unit)
abbrev Yk := (Yf × Int × Unit) × (Unit)
abbrev Yl := (Yf × Bool × Unit) × (Unit)
abbrev Ym := List Yb
abbrev Yn := (Yb × Int × Int × Bool × Unit) × (Unit)
abbrev Yo := Yg × (Unit)
abbrev Yp := Yg × (Int × Int × Int × Int × Int × Unit) × Yb × Yb × Yb × Yb × Ym × Yf × Yf × Yf × Unit
abbrev Yq := (Unit) ⊕ Yc
abbrev Yr := (Yb × Bool × Unit) × (Unit)
abbrev Ys := (Unit) ⊕ Ye
abbrev Yt := (Yf × Int × Unit) ⊕ (Yf × Bool × Unit) × (Unit)
abbrev Yu := Option (Bool × List Int)
abbrev Yv := (Int × Unit) ⊕ Ye
abbrev Yw := (Yf × Unit) ⊕ Yj
abbrev Yx := Yb × Yb × Yg × Ym × Int × Yb × Unit
abbrev Yy := (Ym × Unit) ⊕ Yh
abbrev Yz := (Yb × Int × Unit) × (Unit)
abbrev YA := (Yb × Yf × Yg × Int × Yb × Yf × Int × Int × Unit) ⊕ Yn
abbrev YB := (List (Int × Int)) × Ym × Ym × Int × Int × Unit
abbrev YC := Yb × Ym × Yb × Int × Ym × Int × Int × Yb × Int × Int × Unit
abbrev YD := List Yf
abbrev YE := List Yd
abbrev YF := Yg ⊕ Yo
abbrev YG := (Int × Yb × Yg × YD × Yf × Int × Bool × Unit) ⊕ Yt
abbrev YH := (Int × Int × Bool × Unit) × (Unit)
abbrev YI := (Yb × Yf × Yg × Int × Unit) ⊕ Yn
abbrev YJ := ((List (Int × Int)) × Ym × Int × Ym × Int × Int × Yb × Int × Int × Unit) ⊕ (YB ⊕ (Yh))
abbrev YK := Ym × Ym × Yb × Int × Ym × Int × Int × Unit
abbrev YL := Ym × Yb × Yg × Int × Yb × Int × Int × Unit
abbrev YM := (Bool × Bool × Unit) × (Unit)
noncomputable abbrev M : Oracle E1 := Lm E1
noncomputable def zd0 (O : Oracle E1) (a0 : Yb) (a1 : Int) : Option Ye := O.C 30 (a0, a1, ())
noncomputable def zkb (O : Oracle E1) (a0 : Yg) (a1 : Int) : Option Ye := O.C 6 (a0, a1, ())
noncomputable def zk5 (O : Oracle E1) (a0 : Ya) (a1 : Int) : Option Ye := O.C 53 (a0, a1, ())
noncomputable def ziD (O : Oracle E1) (a0 : Yf) (a1 : Int) : Option Ye := O.C 31 (a0, a1, ())
noncomputable def zjC (O : Oracle E1) (a0 : YD) (a1 : Int) : Option Ye := O.C 7 (a0, a1, ())
noncomputable def zkm (O : Oracle E1) (a0 : Yd) (a1 : Int) : Option Ye := O.C 32 (a0, a1, ())
noncomputable def zjv (O : Oracle E1) (a0 : YE) (a1 : Int) : Option Ye := O.C 8 (a0, a1, ())
noncomputable def zdZ (O : Oracle E1) (a0 : Yb) : Option Yo := O.C 18 (a0, ())
noncomputable def zgB (O : Oracle E1) (a0 : Yg) : Option ((Yg × Unit) × (Unit)) := O.C 10 (a0, ())
noncomputable def zlj (O : Oracle E1) (a0 : Ya) : Option ((Ya × Unit) × (Unit)) := O.C 57 (a0, ())
noncomputable def ziu (O : Oracle E1) (a0 : Yf) : Option Yj := O.C 35 (a0, ())
noncomputable def zfX (O : Oracle E1) (a0 : YD) : Option ((YD × Unit) × (Unit)) := O.C 11 (a0, ())
noncomputable def zkh (O : Oracle E1) (a0 : Yd) : Option ((Yd × Unit) × (Unit)) := O.C 36 (a0, ())
noncomputable def zfW (O : Oracle E1) (a0 : YE) : Option ((YE × Unit) × (Unit)) := O.C 12 (a0, ())
noncomputable def zdY (O : Oracle E1) (a0 : Yb) (a1 : Yb) : Option Yc := O.C 21 (a0, a1, ())
noncomputable def zkq (O : Oracle E1) (a0 : Yg) (a1 : Yg) : Option Yc := O.C 14 (a0, a1, ())
noncomputable def zlk (O : Oracle E1) (a0 : Ya) (a1 : Ya) : Option Yc := O.C 65 (a0, a1, ())
noncomputable def ziy (O : Oracle E1) (a0 : Yf) (a1 : Yf) : Option Yc := O.C 40 (a0, a1, ())
noncomputable def zjJ (O : Oracle E1) (a0 : YD) (a1 : YD) : Option Yc := O.C 15 (a0, a1, ())
noncomputable def zkr (O : Oracle E1) (a0 : Yd) (a1 : Yd) : Option Yc := O.C 20 (a0, a1, ())
noncomputable def zjB (O : Oracle E1) (a0 : YE) (a1 : YE) : Option Yc := O.C 16 (a0, a1, ())
noncomputable def zaL (O : Oracle E1) (a0 : Int) (a1 : Int) (a2 : Int) : Option Yc := O.C 76 (a0, a1, a2, ())
noncomputable def zeS (O : Oracle E1) (a0 : Yg) (a1 : Yb) (a2 : Int) : Option Ye := O.C 138 (a0, a1, a2, ())
noncomputable def zcr (O : Oracle E1) (a0 : Yg) (a1 : Yb) : Option Yc := O.C 101 (a0, a1, ())
noncomputable def zhT (O : Oracle E1) (a0 : Yg) (a1 : Ya) : Option Yc := O.C 75 (a0, a1, ())
noncomputable def zaX (O : Oracle E1) (a0 : Yg) (a1 : Yf) : Option Yc := O.C 54 (a0, a1, ())
noncomputable def zge (O : Oracle E1) (a0 : Yb) (a1 : Int) (a2 : Int) : Option Yc := O.C 72 (a0, a1, a2, ())
noncomputable def zgR (O : Oracle E1) (a0 : Yg) : Option Yc := O.C 55 (a0, ())
noncomputable def zfc (O : Oracle E1) (a0 : Yg) (a1 : YD) : Option Yc := O.C 33 (a0, a1, ())
noncomputable def zdP (O : Oracle E1) (a0 : Yb) (a1 : Int) : Option Yc := O.C 161 (a0, a1, ())
noncomputable def ziY (O : Oracle E1) (a0 : Ym) : Option Yh := O.C 154 (a0, ())
noncomputable def zjK (O : Oracle E1) (a0 : Yf) : Option Yh := O.C 155 (a0, ())
noncomputable def zi3 (O : Oracle E1) (a0 : Yf) : Option Yj := O.C 124 (a0, ())
noncomputable def za1 (O : Oracle E1) (a0 : Yb) (a1 : Yb) : Option Yc := O.C 102 (a0, a1, ())
noncomputable def zbE (O : Oracle E1) (a0 : Yb) : Option Yo := O.C 67 (a0, ())
noncomputable def zhN (O : Oracle E1) (a0 : Yf) : Option Yj := O.C 136 (a0, ())
noncomputable def zhc (O : Oracle E1) (a0 : Ya) (a1 : Ya) : Option Yc := O.C 156 (a0, a1, ())
noncomputable def zke (O : Oracle E1) (a0 : Yf) : Option Yj := O.C 125 (a0, ())
noncomputable def zbh (O : Oracle E1) (a0 : Yf) : Option Yj := O.C 95 (a0, ())
noncomputable def zf9 (O : Oracle E1) (a0 : Yf) (a1 : Int) (a2 : Int) : Option Yc := O.C 126 (a0, a1, a2, ())
noncomputable def zbr (O : Oracle E1) (a0 : Ya) (a1 : Int) : Option ((Yb × Yb × Unit) × (Unit)) := O.C 127 (a0, a1, ())
noncomputable def zjr (O : Oracle E1) (a0 : Yb) (a1 : Int) : Option Yo := O.C 190 (a0, a1, ())
noncomputable def zfk (O : Oracle E1) (a0 : Yb) : Option Yo := O.C 189 (a0, ())
noncomputable def zj8 (O : Oracle E1) (a0 : Yf) : Option Yo := O.C 176 (a0, ())
noncomputable def zjt (O : Oracle E1) (a0 : Yf) : Option Ye := O.C 157 (a0, ())
noncomputable def zhY (O : Oracle E1) (a0 : Yb) (a1 : Int) : Option Yo := O.C 158 (a0, a1, ())
noncomputable def zkf (O : Oracle E1) (a0 : Yg) (a1 : Yf) : Option Yl := O.C 159 (a0, a1, ())
noncomputable def zjG (O : Oracle E1) (a0 : Yg) (a1 : Yf) (a2 : Yf) : Option Yl := O.C 128 (a0, a1, a2, ())
noncomputable def zbD (O : Oracle E1) (a0 : Yg) (a1 : Yb) (a2 : Int) : Option Yo := O.C 130 (a0, a1, a2, ())
noncomputable def zA (O : Oracle E1) (a0 : Ym) (a1 : Yb) : Option Yo := O.C 132 (a0, a1, ())
noncomputable def zhX (O : Oracle E1) (a0 : Yg) (a1 : Ym) (a2 : Yb) (a3 : Yb) : Option Yc := O.C 160 (a0, a1, a2, a3, ())
noncomputable def zgD (O : Oracle E1) (a0 : Ym) (a1 : Int) (a2 : Yb) : Option Yh := O.C 162 (a0, a1, a2, ())
noncomputable def zfV (O : Oracle E1) (a0 : Yg) (a1 : Yb) (a2 : Yb) : Option Yi := O.C 129 (a0, a1, a2, ())
noncomputable def zel (O : Oracle E1) (a0 : Ym) (a1 : Yf) : Option Yj := O.C 131 (a0, a1, ())
noncomputable def zeq (O : Oracle E1) (a0 : Yg) (a1 : Yb) (a2 : Int) (a3 : Yb) : Option Yo := O.C 133 (a0, a1, a2, a3, ())
noncomputable def zhW (O : Oracle E1) (a0 : Yb) (a1 : Int) : Option Ye := O.C 196 (a0, a1, ())
noncomputable def zi0 (O : Oracle E1) (a0 : Yb) (a1 : Yb) : Option Yc := O.C 191 (a0, a1, ())
noncomputable def zc5 (O : Oracle E1) (a0 : Yb) (a1 : Yb) : Option Yc := O.C 177 (a0, a1, ())
noncomputable def zif (O : Oracle E1) (a0 : Yb) (a1 : Yb) : Option Ye := O.C 163 (a0, a1, ())
noncomputable def zgF (O : Oracle E1) (a0 : Yb) (a1 : Yb) : Option Yc := O.C 134 (a0, a1, ())
noncomputable def ziw (O : Oracle E1) (a0 : Ym) (a1 : Ym) : Option Yh := O.C 178 (a0, a1, ())
noncomputable def zfj (O : Oracle E1) (a0 : Ym) (a1 : Ym) : Option Yc := O.C 179 (a0, a1, ())
noncomputable def zjx (O : Oracle E1) (a0 : Ym) (a1 : Ym) : Option Ye := O.C 164 (a0, a1, ())
noncomputable def ziB (O : Oracle E1) (a0 : Ya) : Option Yh := O.C 165 (a0, ())
noncomputable def zc7 (O : Oracle E1) (a0 : Yf) (a1 : Int) : Option Yc := O.C 135 (a0, a1, ())
noncomputable def zdf (O : Oracle E1) (a0 : Yg) (a1 : Yf) (a2 : Yf) (a3 : Int × Int × Int × Int × Int × Unit) : Option Yk := O.C 96 (a0, a1, a2, a3, ())
noncomputable def zem (O : Oracle E1) (a0 : Yg) (a1 : Yf) (a2 : Int) : Option Yk := O.C 97 (a0, a1, a2, ())
noncomputable def zfe (O : Oracle E1) (a0 : Yg) (a1 : Yf) (a2 : Int × Int × Int × Int × Int × Unit) : Option Yk := O.C 98 (a0, a1, a2, ())
noncomputable def zks (O : Oracle E1) (a0 : Yf) : Option Yc := O.C 99 (a0, ())
noncomputable def zhS (O : Oracle E1) (a0 : Yg) (a1 : Ym) (a2 : Yb) (a3 : Yb) : Option Yi := O.C 192 (a0, a1, a2, a3, ())
noncomputable def ziL (O : Oracle E1) (a0 : Yg) (a1 : Yb) (a2 : Yb) (a3 : Yb) : Option Yr := O.C 180 (a0, a1, a2, a3, ())
noncomputable def zix (O : Oracle E1) (a0 : Yg) (a1 : Yb) (a2 : Yf) : Option Yn := O.C 166 (a0, a1, a2, ())
noncomputable def zeZ (O : Oracle E1) (a0 : Yg) (a1 : Yb) (a2 : Yf) : Option Yz := O.C 137 (a0, a1, a2, ())
noncomputable def ziZ (O : Oracle E1) (a0 : Yg) (a1 : Yf) (a2 : Yf) : Option Yk := O.C 100 (a0, a1, a2, ())
noncomputable def zkj (O : Oracle E1) (a0 : Yg) (a1 : YD) (a2 : YE) (a3 : Int) (a4 : Yb) (a5 : Yb) : Option Yl := O.C 66 (a0, a1, a2, a3, a4, a5, ())
noncomputable def zhK (O : Oracle E1) (a0 : Yf) (a1 : Yf) : Option Yc := O.C 77 (a0, a1, ())
noncomputable def zka (O : Oracle E1) (a0 : Yg) (a1 : YD) (a2 : YE) (a3 : Int) : Option Ye := O.C 56 (a0, a1, a2, a3, ())
noncomputable def zju (O : Oracle E1) (a0 : Yg) (a1 : YD) (a2 : YE) : Option ((Int × Int × Unit) × (Unit)) := O.C 34 (a0, a1, a2, ())
noncomputable def zjI (O : Oracle E1) (a0 : Yg) (a1 : YE) : Option Yc := O.C 41 (a0, a1, ())
noncomputable def zjA (O : Oracle E1) (a0 : Yg) (a1 : YE) : Option Yc := O.C 49 (a0, a1, ())
noncomputable def zjw (O : Oracle E1) (a0 : YE) : Option Ye := O.C 50 (a0, ())
noncomputable def zig (O : Oracle E1) (a0 : Yg) (a1 : YD) (a2 : YE) : Option YM := O.C 28 (a0, a1, a2, ())
noncomputable def zhs (O : Oracle E1) (a0 : Int) : Option Yc := O.C 59 (a0, ())
noncomputable def zbA (O : Oracle E1) (a0 : Yb) (a1 : Unit) : Option Ye := O.C 3932238 (a0, a1, ())
noncomputable def zaD (O : Oracle E1) (a0 : Yb) (a1 : Unit) : Option Yc := O.C 3932218 (a0, a1, ())
noncomputable def zgJ (O : Oracle E1) (a0 : Yg) : Option Yc := O.C 37 (a0, ())
noncomputable def zep (O : Oracle E1) (a0 : Yg) (a1 : Int) : Option Ye := O.C 139 (a0, a1, ())
noncomputable def zdp (O : Oracle E1) (a0 : Yg) (a1 : Yb) : Option Yc := O.C 104 (a0, a1, ())
noncomputable def zhG (O : Oracle E1) (a0 : Yg) (a1 : Ya) : Option Yc := O.C 82 (a0, a1, ())
noncomputable def zeC (O : Oracle E1) (a0 : Ya) (a1 : Yg) : Option Yc := O.C 81 (a0, a1, ())
noncomputable def zaC (O : Oracle E1) (a0 : Yf) (a1 : Yg × Unit) : Option Ye := O.C 5374055 (a0, a1, ())
noncomputable def zR (O : Oracle E1) (a0 : Yf) (a1 : Yg × Unit) : Option Yc := O.C 5374032 (a0, a1, ())
noncomputable def zdF (O : Oracle E1) (a0 : Yg) (a1 : Yf) : Option Yc := O.C 62 (a0, a1, ())
noncomputable def zcw (O : Oracle E1) (a0 : Yf) (a1 : Yg) : Option Yc := O.C 61 (a0, a1, ())
noncomputable def zap (O : Oracle E1) (a0 : YD) (a1 : Yg × Unit) : Option Ye := O.C 4063311 (a0, a1, ())
noncomputable def zo (O : Oracle E1) (a0 : YD) (a1 : Yg × Unit) : Option Yc := O.C 4063292 (a0, a1, ())
noncomputable def zdo (O : Oracle E1) (a0 : Yg) (a1 : YD) : Option Yc := O.C 38 (a0, a1, ())
noncomputable def zjy (O : Oracle E1) (a0 : Int) (a1 : YE) : Option Yc := O.C 70 (a0, a1, ())
noncomputable def zbQ (O : Oracle E1) (a0 : Yb) (a1 : YE × Unit) : Option Ye := O.C 4653134 (a0, a1, ())
noncomputable def zaS (O : Oracle E1) (a0 : Yb) (a1 : YE × Unit) : Option Yc := O.C 4653114 (a0, a1, ())
noncomputable def zjo (O : Oracle E1) (a0 : YE) (a1 : Yb) : Option Yc := O.C 44 (a0, a1, ())
noncomputable def zad (O : Oracle E1) (a0 : Int) (a1 : YE) (a2 : Yb) : Option Yj := O.C 83 (a0, a1, a2, ())
noncomputable def zcg (O : Oracle E1) (a0 : Int) (a1 : Int) (a2 : Yb) (a3 : Yb) : Option Yc := O.C 84 (a0, a1, a2, a3, ())
noncomputable def zcv (O : Oracle E1) (a0 : Yf) : Option Yh := O.C 121 (a0, ())
noncomputable def zcm (O : Oracle E1) (a0 : Yf) (a1 : Ym) : Option Yj := O.C 123 (a0, a1, ())
noncomputable def zkg (O : Oracle E1) (a0 : Ym) : Option Yh := O.C 140 (a0, ())
noncomputable def zgq (O : Oracle E1) (a0 : Yf) : Option Yj := O.C 105 (a0, ())
noncomputable def zC (O : Oracle E1) (a0 : Yb) (a1 : Yb) : Option Yc := O.C 94 (a0, a1, ())
noncomputable def zhR (O : Oracle E1) (a0 : Ya) : Option ((Ya × Unit) × (Unit)) := O.C 143 (a0, ())
noncomputable def zij (O : Oracle E1) (a0 : Ya) (a1 : Ya) : Option Yc := O.C 142 (a0, a1, ())
noncomputable def zki (O : Oracle E1) (a0 : Ya) (a1 : Ya) : Option Yc := O.C 141 (a0, a1, ())
noncomputable def zbd (O : Oracle E1) (a0 : Yf) (a1 : Ya × Unit) : Option Ye := O.C 9306215 (a0, a1, ())
noncomputable def zN (O : Oracle E1) (a0 : Yf) (a1 : Ya × Unit) : Option Yc := O.C 9306192 (a0, a1, ())
noncomputable def zl7 (O : Oracle E1) (a0 : Yf) : Option Yj := O.C 106 (a0, ())
noncomputable def zcp (O : Oracle E1) (a0 : Yf) : Option Yj := O.C 85 (a0, ())
noncomputable def zfb (O : Oracle E1) (a0 : Yf) (a1 : Int) : Option Yl := O.C 86 (a0, a1, ())
noncomputable def zcq (O : Oracle E1) (a0 : Yf) (a1 : Int) (a2 : Bool) : Option Yc := O.C 107 (a0, a1, a2, ())
noncomputable def zfm (O : Oracle E1) (a0 : Int) : Option Yc := O.C 108 (a0, ())
noncomputable def zax (O : Oracle E1) (a0 : Ya) (a1 : Int) : Option ((Yb × Yb × Unit) × (Unit)) := O.C 109 (a0, a1, ())
noncomputable def zhf (O : Oracle E1) (a0 : Yb) (a1 : Int) : Option Ye := O.C 170 (a0, a1, ())
noncomputable def za9 (O : Oracle E1) (a0 : Yb) (a1 : Int) : Option Yc := O.C 147 (a0, a1, ())
noncomputable def zi2 (O : Oracle E1) (a0 : Yb) (a1 : Int) : Option Yc := O.C 168 (a0, a1, ())
noncomputable def zby (O : Oracle E1) (a0 : Ym) (a1 : Int × Unit) : Option Ye := O.C 11075765 (a0, a1, ())
noncomputable def zaz (O : Oracle E1) (a0 : Ym) (a1 : Int × Unit) : Option Yc := O.C 11075751 (a0, a1, ())
noncomputable def zkd (O : Oracle E1) (a0 : Ym) : Option Yo := O.C 144 (a0, ())
noncomputable def zk3 (O : Oracle E1) (a0 : Yb) (a1 : Int) : Option Yo := O.C 145 (a0, a1, ())
noncomputable def zeH (O : Oracle E1) (a0 : Yb) (a1 : Yg) : Option Yc := O.C 169 (a0, a1, ())
noncomputable def za6 (O : Oracle E1) (a0 : Ym) (a1 : Yg × Unit) : Option Ye := O.C 11141301 (a0, a1, ())
noncomputable def zac (O : Oracle E1) (a0 : Ym) (a1 : Yg × Unit) : Option Yc := O.C 11141287 (a0, a1, ())
noncomputable def zdz (O : Oracle E1) (a0 : Yg) (a1 : Ym) : Option Yc := O.C 146 (a0, a1, ())
noncomputable def zhq (O : Oracle E1) (a0 : Yg) (a1 : Yf) (a2 : Yf) : Option Yl := O.C 110 (a0, a1, a2, ())
noncomputable def zcE (O : Oracle E1) (a0 : Yg) (a1 : Yb) (a2 : Int) : Option Ye := O.C 148 (a0, a1, a2, ())
noncomputable def zaE (O : Oracle E1) (a0 : Yg) (a1 : Yb) (a2 : Int) : Option Yo := O.C 112 (a0, a1, a2, ())
noncomputable def zbI (O : Oracle E1) (a0 : Ym) (a1 : Yb) : Option Yr := O.C 114 (a0, a1, ())
noncomputable def zdT (O : Oracle E1) (a0 : Yg) (a1 : Yb) (a2 : Yb) : Option Yi := O.C 111 (a0, a1, a2, ())
noncomputable def zci (O : Oracle E1) (a0 : Ym) (a1 : Yf) : Option Yl := O.C 113 (a0, a1, ())
noncomputable def zd3 (O : Oracle E1) (a0 : Ym) : Option Yo := O.C 149 (a0, ())
noncomputable def zei (O : Oracle E1) (a0 : Yg) (a1 : Yb) (a2 : Int) (a3 : Yb) : Option Yo := O.C 115 (a0, a1, a2, a3, ())
noncomputable def zbc (O : Oracle E1) (a0 : YD) : Option Yj := O.C 116 (a0, ())
noncomputable def zaV (O : Oracle E1) (a0 : Yf) (a1 : Bool) : Option Yk := O.C 117 (a0, a1, ())
noncomputable def zi9 (O : Oracle E1) (a0 : Yb) (a1 : Int) : Option Ye := O.C 193 (a0, a1, ())
noncomputable def zhu (O : Oracle E1) (a0 : Yb) (a1 : Yb) : Option Yc := O.C 182 (a0, a1, ())
noncomputable def zcZ (O : Oracle E1) (a0 : Yb) (a1 : Yb) : Option Yc := O.C 172 (a0, a1, ())
noncomputable def zgk (O : Oracle E1) (a0 : Yb) (a1 : Yb) : Option Ye := O.C 151 (a0, a1, ())
noncomputable def zdq (O : Oracle E1) (a0 : Yb) (a1 : Yb) : Option Yc := O.C 118 (a0, a1, ())
noncomputable def zcW (O : Oracle E1) (a0 : Ym) (a1 : Int) (a2 : Int) : Option Yh := O.C 185 (a0, a1, a2, ())
noncomputable def zgZ (O : Oracle E1) (a0 : Yb) (a1 : Yb) : Option Yc := O.C 194 (a0, a1, ())
noncomputable def zbm (O : Oracle E1) (a0 : Ym) (a1 : Yg) : Option Ye := O.C 12779701 (a0, a1, ())
noncomputable def zao (O : Oracle E1) (a0 : Ym) (a1 : Yg) : Option Yc := O.C 12779687 (a0, a1, ())
noncomputable def zc3 (O : Oracle E1) (a0 : Ym) (a1 : Ym) : Option Yc := O.C 186 (a0, a1, ())
noncomputable def ze9 (O : Oracle E1) (a0 : Yb) (a1 : Yb) : Option Yc := O.C 184 (a0, a1, ())
noncomputable def zU (O : Oracle E1) (a0 : Ym) (a1 : Yg) : Option Ye := O.C 12124341 (a0, a1, ())
noncomputable def zgn (O : Oracle E1) (a0 : Ym) (a1 : Ym) : Option Ye := O.C 173 (a0, a1, ())
noncomputable def zft (O : Oracle E1) (a0 : Ya) : Option Yh := O.C 174 (a0, ())
noncomputable def zgW (O : Oracle E1) (a0 : Ya) (a1 : Ya) : Option Ye := O.C 152 (a0, a1, ())
noncomputable def zbR (O : Oracle E1) (a0 : Yf) (a1 : Int) : Option Yc := O.C 119 (a0, a1, ())
noncomputable def zbj (O : Oracle E1) (a0 : Yg) (a1 : Yf) (a2 : Yf) (a3 : Int × Int × Int × Int × Int × Unit) : Option Yk := O.C 87 (a0, a1, a2, a3, ())
noncomputable def zcK (O : Oracle E1) (a0 : Yg) (a1 : Yf) (a2 : Int) : Option Yk := O.C 88 (a0, a1, a2, ())
noncomputable def zdj (O : Oracle E1) (a0 : Yg) (a1 : Yf) (a2 : Int × Int × Int × Int × Int × Unit) : Option Yk := O.C 89 (a0, a1, a2, ())
noncomputable def zkc (O : Oracle E1) (a0 : Yf) : Option Yc := O.C 90 (a0, ())
noncomputable def zfE (O : Oracle E1) (a0 : Yg) (a1 : Ym) (a2 : Yb) (a3 : Yb) : Option Yi := O.C 187 (a0, a1, a2, a3, ())
noncomputable def ziX (O : Oracle E1) (a0 : Yb) (a1 : Int) : Option Yc := O.C 195 (a0, a1, ())
noncomputable def zl8 (O : Oracle E1) (a0 : Ym) : Option Yh := O.C 188 (a0, ())
noncomputable def zb0 (O : Oracle E1) (a0 : Yg) (a1 : Yb) (a2 : Yb) (a3 : Yb) : Option Yr := O.C 175 (a0, a1, a2, a3, ())
noncomputable def zf2 (O : Oracle E1) (a0 : Yg) (a1 : Yb) (a2 : Yf) : Option Yn := O.C 153 (a0, a1, a2, ())
noncomputable def zde (O : Oracle E1) (a0 : Yg) (a1 : Yb) (a2 : Yf) : Option Yz := O.C 122 (a0, a1, a2, ())
noncomputable def zdC (O : Oracle E1) (a0 : Yg) (a1 : Yf) (a2 : Yf) : Option Yk := O.C 91 (a0, a1, a2, ())
noncomputable def zh4 (O : Oracle E1) (a0 : Yg) (a1 : YD) (a2 : YE) (a3 : Int) (a4 : Yb) (a5 : Yb) : Option Yl := O.C 63 (a0, a1, a2, a3, a4, a5, ())
noncomputable def ze3 (O : Oracle E1) (a0 : Ya) (a1 : Ya) : Option Yc := O.C 93 (a0, a1, ())
noncomputable def zu (O : Oracle E1) (a0 : Yf) (a1 : Yf) (a2 : Unit) : Option Yc := O.C 6160476 (a0, a1, a2, ())
noncomputable def zgu (O : Oracle E1) (a0 : Yf) (a1 : Yf) : Option Yc := O.C 64 (a0, a1, ())
noncomputable def zff (O : Oracle E1) (a0 : Yg) (a1 : YD) (a2 : YE) (a3 : Yd) : Option Ye := O.C 39 (a0, a1, a2, a3, ())
noncomputable def zfz (O : Oracle E1) (a0 : Yg) (a1 : YD) (a2 : YE) : Option YH := O.C 13 (a0, a1, a2, ())
noncomputable def zeu (O : Oracle E1) (a0 : Yd) (a1 : Yg) : Option Yc := O.C 69 (a0, a1, ())
noncomputable def zav (O : Oracle E1) (a0 : YE) (a1 : Yg × Unit) : Option Ye := O.C 4587593 (a0, a1, ())
noncomputable def zM (O : Oracle E1) (a0 : YE) (a1 : Yg × Unit) : Option Yc := O.C 4587588 (a0, a1, ())
noncomputable def zfQ (O : Oracle E1) (a0 : Yg) (a1 : YE) : Option Yc := O.C 43 (a0, a1, ())
noncomputable def zis (O : Oracle E1) (a0 : Yg) (a1 : YE) : Option Yc := O.C 51 (a0, a1, ())
noncomputable def zgo (O : Oracle E1) (a0 : Yd) : Option Yc := O.C 74 (a0, ())
noncomputable def zD (O : Oracle E1) (a0 : YE) (a1 : Unit) : Option Ye := O.C 4915273 (a0, a1, ())
noncomputable def zhB (O : Oracle E1) (a0 : YE) : Option Ye := O.C 52 (a0, ())
noncomputable def zir (O : Oracle E1) (a0 : Yg) (a1 : YD) (a2 : YE) : Option YM := O.C 29 (a0, a1, a2, ())
noncomputable def zd2 (O : Oracle E1) (a0 : Yg) (a1 : YD) (a2 : YE) : Option Yc := O.C 5 (a0, a1, a2, ())
noncomputable abbrev zrr : LoopH := { key := 244, ht := [0, 1, 5], hτ := (fs [yg, yc, yc]), ex := 0, ot := [1], oτ := (fs [yc]) }
noncomputable def zq9 : Code := Code.part (bodyOf 31) [1, 1, 1, 0, 1, 0, 0]
noncomputable def zfr (O : Oracle E1) (a0 : Yf) (a1 : Int) (a2 : Int) : Option Yv := O.L 31 zrr zq9 (a0, a1, a2, ())
noncomputable abbrev zqm : LoopH := { key := 244, ht := [0, 1, 5], hτ := (fs [yo, yc, yc]), ex := 0, ot := [1], oτ := (fs [yc]) }
noncomputable def zqs : Code := Code.part (bodyOf 7) [1, 1, 1, 0, 1, 0, 0]
noncomputable def zeM (O : Oracle E1) (a0 : YD) (a1 : Int) (a2 : Int) : Option Yv := O.L 7 zqm zqs (a0, a1, a2, ())
noncomputable abbrev zqB : LoopH := { key := 244, ht := [0, 1, 5], hτ := (fs [yd, yc, yc]), ex := 0, ot := [1], oτ := (fs [yc]) }
noncomputable def zqr : Code := Code.part (bodyOf 8) [1, 1, 1, 0, 1, 0, 0]
noncomputable def zeQ (O : Oracle E1) (a0 : YE) (a1 : Int) (a2 : Int) : Option Yv := O.L 8 zqB zqr (a0, a1, a2, ())
noncomputable abbrev zr1 : LoopH := { key := 116, ht := [0, 3, 4], hτ := (fs [ya, yf, yc]), ex := 0, ot := [3], oτ := (fs [yf]) }
noncomputable def zsl : Code := Code.part (bodyOf 18) [1, 1, 0, 1, 0, 0]
noncomputable def zf4 (O : Oracle E1) (a0 : Yb) (a1 : Yb) (a2 : Int) : Option YF := O.L 18 zr1 zsl (a0, a1, a2, ())
noncomputable abbrev zrY : LoopH := { key := 116, ht := [0, 3, 4], hτ := (fs [yg, yh, yc]), ex := 0, ot := [3], oτ := (fs [yh]) }
noncomputable def zrZ : Code := Code.part (bodyOf 35) [1, 1, 0, 1, 0, 0]
noncomputable def zf6 (O : Oracle E1) (a0 : Yf) (a1 : Yf) (a2 : Int) : Option Yw := O.L 35 zrY zrZ (a0, a1, a2, ())
noncomputable abbrev zqU : LoopH := { key := 116, ht := [0, 3, 4], hτ := (fs [yo, (.own yh), yc]), ex := 0, ot := [3], oτ := (fs [(.own yh)]) }
noncomputable def zqY : Code := Code.part (bodyOf 11) [1, 1, 0, 1, 0, 0]
noncomputable def zfv (O : Oracle E1) (a0 : YD) (a1 : YD) (a2 : Int) : Option ((YD × Unit) ⊕ ((YD × Unit) × (Unit))) := O.L 11 zqU zqY (a0, a1, a2, ())
noncomputable abbrev zq7 : LoopH := { key := 116, ht := [0, 3, 4], hτ := (fs [yd, (.own yt), yc]), ex := 0, ot := [3], oτ := (fs [(.own yt)]) }
noncomputable def zrh : Code := Code.part (bodyOf 12) [1, 1, 0, 1, 0, 0]
noncomputable def zfy (O : Oracle E1) (a0 : YE) (a1 : YE) (a2 : Int) : Option ((YE × Unit) ⊕ ((YE × Unit) × (Unit))) := O.L 12 zq7 zrh (a0, a1, a2, ())
noncomputable abbrev zsi : LoopH := { key := 116, ht := [0, 1, 5], hτ := (fs [ya, ya, yc]), ex := 0, ot := [], oτ := (fs []) }
noncomputable def zsk : Code := Code.part (bodyOf 21) [1, 1, 0, 1, 0, 0]
noncomputable def zgg (O : Oracle E1) (a0 : Yb) (a1 : Yb) (a2 : Int) : Option Yq := O.L 21 zsi zsk (a0, a1, a2, ())
noncomputable abbrev zrV : LoopH := { key := 116, ht := [0, 1, 5], hτ := (fs [yg, yg, yc]), ex := 0, ot := [], oτ := (fs []) }
noncomputable def zr4 : Code := Code.part (bodyOf 40) [1, 1, 0, 1, 0, 0]
noncomputable def zf1 (O : Oracle E1) (a0 : Yf) (a1 : Yf) (a2 : Int) : Option Yq := O.L 40 zrV zr4 (a0, a1, a2, ())
noncomputable abbrev zqR : LoopH := { key := 116, ht := [0, 1, 5], hτ := (fs [yo, yo, yc]), ex := 0, ot := [], oτ := (fs []) }
noncomputable def zrD : Code := Code.part (bodyOf 15) [1, 1, 0, 1, 0, 0]
noncomputable def zfq (O : Oracle E1) (a0 : YD) (a1 : YD) (a2 : Int) : Option Yq := O.L 15 zqR zrD (a0, a1, a2, ())
noncomputable abbrev zrb : LoopH := { key := 116, ht := [0, 1, 5], hτ := (fs [yd, yd, yc]), ex := 0, ot := [], oτ := (fs []) }
noncomputable def zq3 : Code := Code.part (bodyOf 16) [1, 1, 0, 1, 0, 0]
noncomputable def zfF (O : Oracle E1) (a0 : YE) (a1 : YE) (a2 : Int) : Option Yq := O.L 16 zrb zq3 (a0, a1, a2, ())
noncomputable abbrev zsB : LoopH := { key := 56, ht := [1, 2, 3, 7], hτ := (fs [ya, yc, yi, yc]), ex := 0, ot := [2], oτ := (fs [yc]) }
noncomputable def zsE : Code := Code.part (bodyOf 138) [1, 1, 0, 0, 0]
noncomputable def zdE (O : Oracle E1) (a0 : Yb) (a1 : Int) (a2 : Yg) (a3 : Int) : Option Yv := O.L 138 zsB zsE (a0, a1, a2, a3, ())
noncomputable abbrev zqu : LoopH := { key := 52, ht := [1, 2, 7, 8, 9], hτ := (fs [yg, yi, yg, yc, yc]), ex := 0, ot := [1], oτ := (fs [yg]) }
noncomputable def zqd : Code := Code.part (bodyOf 54) [1, 0, 1, 0, 0]
noncomputable def zbb (O : Oracle E1) (a0 : Yf) (a1 : Yg) (a2 : Yf) (a3 : Int) (a4 : Int) : Option ((Yf × Unit) ⊕ Yc) := O.L 54 zqu zqd (a0, a1, a2, a3, a4, ())
noncomputable abbrev zsF : LoopH := { key := 52, ht := [1, 2, 9, 10, 11], hτ := (fs [yc, yc, ya, yc, yc]), ex := 0, ot := [], oτ := (fs []) }
noncomputable def zsJ : Code := Code.part (bodyOf 72) [1, 0, 1, 0, 0]
noncomputable def zgK (O : Oracle E1) (a0 : Int) (a1 : Int) (a2 : Yb) (a3 : Int) (a4 : Int) : Option Yq := O.L 72 zsF zsJ (a0, a1, a2, a3, a4, ())
noncomputable abbrev zqw : LoopH := { key := 52, ht := [1, 2, 7, 8, 9], hτ := (fs [yo, yi, yo, yc, yc]), ex := 0, ot := [1, 2], oτ := (fs [yo, yi]) }
noncomputable def zqt : Code := Code.part (bodyOf 33) [1, 0, 1, 0, 0]
noncomputable def zaR (O : Oracle E1) (a0 : YD) (a1 : Yg) (a2 : YD) (a3 : Int) (a4 : Int) : Option ((YD × Yg × Unit) ⊕ Yc) := O.L 33 zqw zqt (a0, a1, a2, a3, a4, ())
noncomputable abbrev zs3 : LoopH := { key := 52, ht := [1, 7, 8, 9], hτ := (fs [yc, ya, yc, yc]), ex := 0, ot := [], oτ := (fs []) }
noncomputable def zsZ : Code := Code.part (bodyOf 161) [1, 0, 1, 0, 0]
noncomputable def zfg (O : Oracle E1) (a0 : Int) (a1 : Yb) (a2 : Int) (a3 : Int) : Option Yq := O.L 161 zs3 zsZ (a0, a1, a2, a3, ())
noncomputable abbrev zp7 : LoopH := { key := 244, ht := [3, 4, 12, 13, 14], hτ := (fs [yf, yj, yl, yc, yc]), ex := 0, ot := [4], oτ := (fs [yj]) }
noncomputable def zpN : Code := Code.part (bodyOf 154) [1, 1, 1, 0, 1, 0, 0]
noncomputable def zeb (O : Oracle E1) (a0 : Yb) (a1 : Ym) (a2 : Ym) (a3 : Int) (a4 : Int) : Option Yy := O.L 154 zp7 zpN (a0, a1, a2, a3, a4, ())
noncomputable abbrev zol : LoopH := { key := 250676, ht := [3, 4, 7, 12, 13, 14, 18, 19, 20], hτ := (fs [yf, yj, yf, yl, yc, yc, ya, yc, yc]), ex := 2, ot := [3, 4, 7, 12, 13, 14], oτ := (fs [yf, yj, yf, yl, yc, yc]) }
noncomputable def zoh : Code := Code.part (bodyOf 154) [1, 1, 1, 0, 1, 0, 0, 1, 1, 0, 0, 1, 1, 0, 1, 0, 0]
noncomputable def zbX (O : Oracle E1) (a0 : Yb) (a1 : Ym) (a2 : Yb) (a3 : Ym) (a4 : Int) (a5 : Int) (a6 : Yb) (a7 : Int) (a8 : Int) : Option ((Yb × Ym × Yb × Ym × Int × Int × Unit) ⊕ Yh) := O.L 154 zol zoh (a0, a1, a2, a3, a4, a5, a6, a7, a8, ())
noncomputable abbrev zm3 : LoopH := { key := 256693044, ht := [3, 4, 7, 9, 12, 13, 14, 18, 19, 20, 37, 38], hτ := (fs [yf, yj, yf, yc, yl, yc, yc, ya, yc, yc, yc, yc]), ex := 4, ot := [3, 4, 7, 9, 12, 13, 14, 18, 19, 20], oτ := (fs [yf, yj, yf, yc, yl, yc, yc, ya, yc, yc]), hal := [(36, 3)] }
noncomputable def zmP : Code := Code.part (bodyOf 154) [1, 1, 1, 0, 1, 0, 0, 1, 1, 0, 0, 1, 1, 0, 1, 0, 0, 1, 1, 0, 0, 1, 1, 0, 1, 0, 0]
noncomputable def za8 (O : Oracle E1) (a0 : Yb) (a1 : Ym) (a2 : Yb) (a3 : Int) (a4 : Ym) (a5 : Int) (a6 : Int) (a7 : Yb) (a8 : Int) (a9 : Int) (a10 : Int) (a11 : Int) : Option (YC ⊕ Yh) := O.L 154 zm3 zmP (a0, a1, a2, a3, a4, a5, a6, a7, a8, a9, a10, a11, ())
noncomputable abbrev zrx : LoopH := { key := 116, ht := [3, 6, 7, 8], hτ := (fs [yj, yg, yc, yc]), ex := 0, ot := [3], oτ := (fs [yj]) }
noncomputable def zru : Code := Code.part (bodyOf 155) [1, 1, 0, 1, 0, 0]
noncomputable def zfu (O : Oracle E1) (a0 : Ym) (a1 : Yf) (a2 : Int) (a3 : Int) : Option Yy := O.L 155 zrx zru (a0, a1, a2, a3, ())
noncomputable abbrev zpw : LoopH := { key := 244, ht := [3, 4, 10, 11, 12], hτ := (fs [yj, ym, yg, yc, yc]), ex := 0, ot := [4], oτ := (fs [ym]) }
noncomputable def zpx : Code := Code.part (bodyOf 124) [1, 1, 1, 0, 1, 0, 0]
noncomputable def zd8 (O : Oracle E1) (a0 : Ym) (a1 : Yf) (a2 : Yf) (a3 : Int) (a4 : Int) : Option Yw := O.L 124 zpw zpx (a0, a1, a2, a3, a4, ())
noncomputable abbrev zr6 : LoopH := { key := 116, ht := [0, 1, 12, 13], hτ := (fs [ya, ya, yc, yc]), ex := 0, ot := [], oτ := (fs []) }
noncomputable def zrS : Code := Code.part (bodyOf 102) [1, 1, 0, 1, 0, 0]
noncomputable def zf7 (O : Oracle E1) (a0 : Yb) (a1 : Yb) (a2 : Int) (a3 : Int) : Option Yq := O.L 102 zr6 zrS (a0, a1, a2, a3, ())
noncomputable abbrev zsP : LoopH := { key := 116, ht := [3, 6, 7, 8], hτ := (fs [ym, yg, yc, yc]), ex := 0, ot := [3], oτ := (fs [ym]) }
noncomputable def zs6 : Code := Code.part (bodyOf 136) [1, 1, 0, 1, 0, 0]
noncomputable def zgY (O : Oracle E1) (a0 : Yf) (a1 : Yf) (a2 : Int) (a3 : Int) : Option Yw := O.L 136 zsP zs6 (a0, a1, a2, a3, ())
noncomputable abbrev zr0 : LoopH := { key := 116, ht := [3, 9, 10, 11], hτ := (fs [ym, yg, yc, yc]), ex := 0, ot := [3], oτ := (fs [ym]) }
noncomputable def zsm : Code := Code.part (bodyOf 125) [1, 1, 0, 1, 0, 0]
noncomputable def zc6 (O : Oracle E1) (a0 : Yf) (a1 : Yf) (a2 : Int) (a3 : Int) : Option Yw := O.L 125 zr0 zsm (a0, a1, a2, a3, ())
noncomputable abbrev zpg : LoopH := { key := 239220, ht := [3, 5, 6, 9, 10, 11, 26, 27], hτ := (fs [ym, (.box yb), .bool, yg, yc, yc, yc, yc]), ex := 2, ot := [3, 5, 6, 9, 10, 11], oτ := (fs [ym, (.box yb), .bool, yg, yc, yc]), hal := [(25, 3)] }
noncomputable def zoZ : Code := Code.part (bodyOf 125) [1, 1, 0, 1, 0, 0, 1, 1, 0, 0, 1, 1, 1, 0, 1, 0, 0]
noncomputable def zbt (O : Oracle E1) (a0 : Yf) (a1 : Ya) (a2 : Bool) (a3 : Yf) (a4 : Int) (a5 : Int) (a6 : Int) (a7 : Int) : Option ((Yf × Ya × Bool × Yf × Int × Int × Unit) ⊕ Yj) := O.L 125 zpg zoZ (a0, a1, a2, a3, a4, a5, a6, a7, ())
noncomputable abbrev zs4 : LoopH := { key := 56, ht := [0, 1, 5], hτ := (fs [yf, yc, yc]), ex := 0, ot := [0, 1, 5], oτ := (fs [yf, yc, yc]) }
noncomputable def zsW : Code := Code.part (bodyOf 190) [1, 1, 0, 0, 0]
noncomputable def zg9 (O : Oracle E1) (a0 : Yb) (a1 : Int) (a2 : Int) : Option ((Yb × Int × Int × Unit) ⊕ Yo) := O.L 190 zs4 zsW (a0, a1, a2, ())
noncomputable abbrev zr8 : LoopH := { key := 116, ht := [3, 6, 7, 8], hτ := (fs [yf, ya, yc, yc]), ex := 0, ot := [3], oτ := (fs [yf]) }
noncomputable def zsd : Code := Code.part (bodyOf 189) [1, 1, 0, 1, 0, 0]
noncomputable def zfY (O : Oracle E1) (a0 : Yb) (a1 : Yb) (a2 : Int) (a3 : Int) : Option YF := O.L 189 zr8 zsd (a0, a1, a2, a3, ())
noncomputable abbrev zsj : LoopH := { key := 116, ht := [3, 8, 9, 10], hτ := (fs [yf, yg, yc, yc]), ex := 0, ot := [3], oτ := (fs [yf]) }
noncomputable def zr2 : Code := Code.part (bodyOf 176) [1, 1, 0, 1, 0, 0]
noncomputable def zgd (O : Oracle E1) (a0 : Yb) (a1 : Yf) (a2 : Int) (a3 : Int) : Option YF := O.L 176 zsj zr2 (a0, a1, a2, a3, ())
noncomputable abbrev zpR : LoopH := { key := 29900, ht := [3, 8, 9, 10, 20, 21, 22], hτ := (fs [yf, yg, yc, yc, yf, yc, yc]), ex := 2, ot := [3, 8, 9, 10], oτ := (fs [yf, yg, yc, yc]) }
noncomputable def zpL : Code := Code.part (bodyOf 176) [1, 1, 0, 1, 0, 0, 1, 1, 0, 0, 1, 1, 0, 0]
noncomputable def zcL (O : Oracle E1) (a0 : Yb) (a1 : Yf) (a2 : Int) (a3 : Int) (a4 : Yb) (a5 : Int) (a6 : Int) : Option ((Yb × Yf × Int × Int × Unit) ⊕ Yo) := O.L 176 zpR zpL (a0, a1, a2, a3, a4, a5, a6, ())
noncomputable abbrev zrt : LoopH := { key := 116, ht := [1, 5, 11, 12], hτ := (fs [yc, yf, yc, yc]), ex := 0, ot := [5], oτ := (fs [yf]), hal := [(10, 5)] }
noncomputable def zrm : Code := Code.part (bodyOf 158) [1, 1, 0, 1, 0, 0]
noncomputable def zfw (O : Oracle E1) (a0 : Int) (a1 : Yb) (a2 : Int) (a3 : Int) : Option YF := O.L 158 zrt zrm (a0, a1, a2, a3, ())
noncomputable abbrev zqv : LoopH := { key := 244, ht := [3, 8, 9, 14, 15, 16], hτ := (fs [yi, yc, ym, yg, yc, yc]), ex := 0, ot := [3, 9], oτ := (fs [yi, ym]) }
noncomputable def zqz : Code := Code.part (bodyOf 128) [1, 1, 1, 0, 1, 0, 0]
noncomputable def zeI (O : Oracle E1) (a0 : Yg) (a1 : Int) (a2 : Yf) (a3 : Yf) (a4 : Int) (a5 : Int) : Option ((Yg × Yf × Unit) ⊕ Yl) := O.L 128 zqv zqz (a0, a1, a2, a3, a4, a5, ())
noncomputable abbrev zqM : LoopH := { key := 116, ht := [0, 5, 8, 9, 10], hτ := (fs [yl, yf, ya, yc, yc]), ex := 0, ot := [5], oτ := (fs [yf]) }
noncomputable def zq2 : Code := Code.part (bodyOf 132) [1, 1, 0, 1, 0, 0]
noncomputable def zdX (O : Oracle E1) (a0 : Ym) (a1 : Yb) (a2 : Yb) (a3 : Int) (a4 : Int) : Option YF := O.L 132 zqM zq2 (a0, a1, a2, a3, a4, ())
noncomputable abbrev zrp : LoopH := { key := 52, ht := [2, 3, 4, 11, 12, 13], hτ := (fs [ya, ya, yi, yl, yc, yc]), ex := 0, ot := [2, 3, 4], oτ := (fs [ya, ya, yi]) }
noncomputable def zqP : Code := Code.part (bodyOf 160) [1, 0, 1, 0, 0]
noncomputable def zdV (O : Oracle E1) (a0 : Yb) (a1 : Yb) (a2 : Yg) (a3 : Ym) (a4 : Int) (a5 : Int) : Option ((Yb × Yb × Yg × Unit) ⊕ Yc) := O.L 160 zrp zqP (a0, a1, a2, a3, a4, a5, ())
noncomputable abbrev zqC : LoopH := { key := 500, ht := [0, 1, 2, 7, 8, 17, 18], hτ := (fs [yl, yc, ya, yj, yj, yc, yc]), ex := 0, ot := [1, 2, 8], oτ := (fs [yc, ya, yj]) }
noncomputable def zqW : Code := Code.part (bodyOf 162) [1, 1, 1, 1, 0, 1, 0, 0]
noncomputable def zfx (O : Oracle E1) (a0 : Ym) (a1 : Int) (a2 : Yb) (a3 : Ym) (a4 : Ym) (a5 : Int) (a6 : Int) : Option ((Int × Yb × Ym × Unit) ⊕ Yh) := O.L 162 zqC zqW (a0, a1, a2, a3, a4, a5, a6, ())
noncomputable abbrev zrF : LoopH := { key := 60, ht := [1, 2, 3, 8, 9, 10], hτ := (fs [ya, ya, yi, yj, yf, yf]), ex := 999, ot := [], oτ := (fs []) }
noncomputable def zqG : Code := Code.part (bodyOf 129) [1, 1, 1, 0, 0]
noncomputable def zaG (O : Oracle E1) (a0 : Yb) (a1 : Yb) (a2 : Yg) (a3 : Ym) (a4 : Yb) (a5 : Yb) : Option ((Unit) ⊕ Yi) := O.L 129 zrF zqG (a0, a1, a2, a3, a4, a5, ())
noncomputable abbrev zp2 : LoopH := { key := 3864, ht := [1, 2, 3, 8, 9, 10, 11], hτ := (fs [ya, ya, yi, yj, yf, yf, yc]), ex := 2, ot := [1, 2, 3, 8, 9, 10, 11], oτ := (fs [ya, ya, yi, yj, yf, yf, yc]) }
noncomputable def zpZ : Code := Code.part (bodyOf 129) [1, 1, 1, 0, 0, 0, 1, 1, 0, 0, 0]
noncomputable def zd9 (O : Oracle E1) (a0 : Yb) (a1 : Yb) (a2 : Yg) (a3 : Ym) (a4 : Yb) (a5 : Yb) (a6 : Int) : Option ((Yb × Yb × Yg × Ym × Yb × Yb × Int × Unit) ⊕ Yi) := O.L 129 zp2 zpZ (a0, a1, a2, a3, a4, a5, a6, ())
noncomputable abbrev zrG : LoopH := { key := 116, ht := [0, 5, 8, 9, 10], hτ := (fs [yl, ym, yg, yc, yc]), ex := 0, ot := [5], oτ := (fs [ym]) }
noncomputable def zrk : Code := Code.part (bodyOf 131) [1, 1, 0, 1, 0, 0]
noncomputable def zfC (O : Oracle E1) (a0 : Ym) (a1 : Yf) (a2 : Yf) (a3 : Int) (a4 : Int) : Option Yw := O.L 131 zrG zrk (a0, a1, a2, a3, a4, ())
noncomputable abbrev zq5 : LoopH := { key := 116, ht := [1, 5, 8, 9, 10], hτ := (fs [yc, yc, ya, yc, yc]), ex := 0, ot := [5], oτ := (fs [yc]) }
noncomputable def zq4 : Code := Code.part (bodyOf 196) [1, 1, 0, 1, 0, 0]
noncomputable def zfB (O : Oracle E1) (a0 : Int) (a1 : Int) (a2 : Yb) (a3 : Int) (a4 : Int) : Option Yv := O.L 196 zq5 zq4 (a0, a1, a2, a3, a4, ())
noncomputable abbrev zqo : LoopH := { key := 52, ht := [0, 1, 8, 9, 10], hτ := (fs [ya, ya, yf, yc, yc]), ex := 0, ot := [], oτ := (fs []) }
noncomputable def zqc : Code := Code.part (bodyOf 191) [1, 0, 1, 0, 0]
noncomputable def zeJ (O : Oracle E1) (a0 : Yb) (a1 : Yb) (a2 : Yb) (a3 : Int) (a4 : Int) : Option Yq := O.L 191 zqo zqc (a0, a1, a2, a3, a4, ())
noncomputable abbrev zpm : LoopH := { key := 244, ht := [0, 1, 23, 24], hτ := (fs [ya, ya, yc, yc]), ex := 0, ot := [], oτ := (fs []) }
noncomputable def zpp : Code := Code.part (bodyOf 177) [1, 1, 1, 0, 1, 0, 0]
noncomputable def zdN (O : Oracle E1) (a0 : Yb) (a1 : Yb) (a2 : Int) (a3 : Int) : Option Yq := O.L 177 zpm zpp (a0, a1, a2, a3, ())
noncomputable abbrev zrg : LoopH := { key := 244, ht := [5, 6, 16, 17, 18], hτ := (fs [yj, yj, yl, yc, yc]), ex := 0, ot := [6], oτ := (fs [yj]) }
noncomputable def zqF : Code := Code.part (bodyOf 178) [1, 1, 1, 0, 1, 0, 0]
noncomputable def zfA (O : Oracle E1) (a0 : Ym) (a1 : Ym) (a2 : Ym) (a3 : Int) (a4 : Int) : Option Yy := O.L 178 zrg zqF (a0, a1, a2, a3, a4, ())
noncomputable abbrev zpk : LoopH := { key := 250676, ht := [5, 6, 8, 9, 16, 17, 18, 23, 24], hτ := (fs [yj, yj, ya, yc, yl, yc, yc, yc, yc]), ex := 2, ot := [5, 6, 8, 9, 16, 17, 18], oτ := (fs [yj, yj, ya, yc, yl, yc, yc]), hal := [(22, 5)] }
noncomputable def zpr : Code := Code.part (bodyOf 178) [1, 1, 1, 0, 1, 0, 0, 1, 1, 0, 0, 1, 1, 0, 1, 0, 0]
noncomputable def zdI (O : Oracle E1) (a0 : Ym) (a1 : Ym) (a2 : Yb) (a3 : Int) (a4 : Ym) (a5 : Int) (a6 : Int) (a7 : Int) (a8 : Int) : Option (YK ⊕ Yh) := O.L 178 zpk zpr (a0, a1, a2, a3, a4, a5, a6, a7, a8, ())
noncomputable abbrev zrT : LoopH := { key := 52, ht := [0, 10, 11, 12], hτ := (fs [yl, yl, yc, yc]), ex := 0, ot := [0], oτ := (fs [yl]) }
noncomputable def zrX : Code := Code.part (bodyOf 179) [1, 0, 1, 0, 0]
noncomputable def zgf (O : Oracle E1) (a0 : Ym) (a1 : Ym) (a2 : Int) (a3 : Int) : Option ((Ym × Unit) ⊕ Yc) := O.L 179 zrT zrX (a0, a1, a2, a3, ())
noncomputable abbrev zpz : LoopH := { key := 54068, ht := [0, 6, 7, 10, 11, 12, 16, 17, 18], hτ := (fs [yl, ya, .bool, yl, yc, yc, yl, yc, yc]), ex := 2, ot := [0, 7, 10, 11, 12], oτ := (fs [yl, .bool, yl, yc, yc]) }
noncomputable def zpU : Code := Code.part (bodyOf 179) [1, 0, 1, 0, 0, 1, 1, 0, 0, 1, 1, 0, 1, 0, 0]
noncomputable def zcH (O : Oracle E1) (a0 : Ym) (a1 : Yb) (a2 : Bool) (a3 : Ym) (a4 : Int) (a5 : Int) (a6 : Ym) (a7 : Int) (a8 : Int) : Option ((Ym × Bool × Ym × Int × Int × Unit) ⊕ Yc) := O.L 179 zpz zpU (a0, a1, a2, a3, a4, a5, a6, a7, a8, ())
noncomputable abbrev zpH : LoopH := { key := 52, ht := [0, 1, 7, 8, 9], hτ := (fs [yg, yc, yg, yc, yc]), ex := 0, ot := [], oτ := (fs []) }
noncomputable def zpC : Code := Code.part (bodyOf 135) [1, 0, 1, 0, 0]
noncomputable def zcM (O : Oracle E1) (a0 : Yf) (a1 : Int) (a2 : Yf) (a3 : Int) (a4 : Int) : Option Yq := O.L 135 zpH zpC (a0, a1, a2, a3, a4, ())
noncomputable abbrev zoB : LoopH := { key := 262132, ht := [4, 7, 10, 14, 15, 16, 17, 18, 19, 20, 128, 129], hτ := yq, ex := 0, ot := [4, 7, 10, 14, 15, 16, 17, 18, 19, 20], oτ := yu, hal := [(127, 18)] }
noncomputable def zoX : Code := Code.part (bodyOf 96) [1, 1, 1, 1, 1, 1, 1, 1, 1, 1, 1, 1, 1, 0, 1, 0, 0]
noncomputable def zda (O : Oracle E1) (a0 : Yg) (a1 : Int × Int × Int × Int × Int × Unit) (a2 : Yb) (a3 : Yb) (a4 : Yb) (a5 : Yb) (a6 : Ym) (a7 : Yf) (a8 : Yf) (a9 : Yf) (a10 : Int) (a11 : Int) : Option (Yp ⊕ Yk) := O.L 96 zoB zoX (a0, a1, a2, a3, a4, a5, a6, a7, a8, a9, a10, a11, ())
noncomputable abbrev zoI : LoopH := { key := 524276, ht := [4, 7, 10, 14, 15, 16, 17, 18, 19, 20, 144, 145], hτ := yq, ex := 2, ot := [4, 7, 10, 14, 15, 16, 17, 18, 19, 20], oτ := yu, hal := [(143, 19)] }
noncomputable def zoy : Code := Code.part (bodyOf 96) [1, 1, 1, 1, 1, 1, 1, 1, 1, 1, 1, 1, 1, 1, 0, 1, 0, 0]
noncomputable def zc9 (O : Oracle E1) (a0 : Yg) (a1 : Int × Int × Int × Int × Int × Unit) (a2 : Yb) (a3 : Yb) (a4 : Yb) (a5 : Yb) (a6 : Ym) (a7 : Yf) (a8 : Yf) (a9 : Yf) (a10 : Int) (a11 : Int) : Option (Yp ⊕ Yk) := O.L 96 zoI zoy (a0, a1, a2, a3, a4, a5, a6, a7, a8, a9, a10, a11, ())
noncomputable abbrev zqH : LoopH := { key := 56, ht := [1, 2, 3, 4, 10, 11], hτ := (fs [yj, ya, ya, yi, yc, yc]), ex := 0, ot := [1], oτ := (fs [yj]) }
noncomputable def zrE : Code := Code.part (bodyOf 192) [1, 1, 0, 0, 0]
noncomputable def za3 (O : Oracle E1) (a0 : Ym) (a1 : Yb) (a2 : Yb) (a3 : Yg) (a4 : Int) (a5 : Int) : Option ((Ym × Unit) ⊕ Yi) := O.L 192 zqH zrE (a0, a1, a2, a3, a4, a5, ())
noncomputable abbrev zsM : LoopH := { key := 500, ht := [1, 12, 29, 30, 31], hτ := (fs [ya, yf, yf, yc, yc]), ex := 0, ot := [1, 12], oτ := (fs [ya, yf]) }
noncomputable def zsN : Code := Code.part (bodyOf 180) [1, 1, 1, 1, 0, 1, 0, 0]
noncomputable def zgM (O : Oracle E1) (a0 : Yb) (a1 : Yb) (a2 : Yb) (a3 : Int) (a4 : Int) : Option ((Yb × Yb × Unit) ⊕ Yr) := O.L 180 zsM zsN (a0, a1, a2, a3, a4, ())
noncomputable abbrev zsg : LoopH := { key := 52, ht := [1, 2, 3, 10], hτ := (fs [ya, yg, yi, yc]), ex := 0, ot := [], oτ := (fs []) }
noncomputable def zr9 : Code := Code.part (bodyOf 166) [1, 0, 1, 0, 0]
noncomputable def zc0 (O : Oracle E1) (a0 : Yb) (a1 : Yf) (a2 : Yg) (a3 : Int) : Option ((Unit) ⊕ Yn) := O.L 166 zsg zr9 (a0, a1, a2, a3, ())
noncomputable abbrev zqp : LoopH := { key := 6732, ht := [1, 2, 3, 10, 11, 30, 31, 32], hτ := (fs [ya, yg, yi, yc, yf, yg, yc, yc]), ex := 2, ot := [1, 2, 3, 10], oτ := (fs [ya, yg, yi, yc]) }
noncomputable def zqq : Code := Code.part (bodyOf 166) [1, 0, 1, 0, 0, 1, 0, 0, 1, 1, 0, 0]
noncomputable def zcj (O : Oracle E1) (a0 : Yb) (a1 : Yf) (a2 : Yg) (a3 : Int) (a4 : Yb) (a5 : Yf) (a6 : Int) (a7 : Int) : Option YI := O.L 166 zqp zqq (a0, a1, a2, a3, a4, a5, a6, a7, ())
noncomputable abbrev zpq : LoopH := { key := 1723596, ht := [1, 2, 3, 10, 11, 12, 13, 14, 30, 31, 32], hτ := (fs [ya, yg, yi, yc, yf, yc, (.box yb), yc, yg, yc, yc]), ex := 4, ot := [1, 2, 3, 10, 11, 30, 31, 32], oτ := (fs [ya, yg, yi, yc, yf, yg, yc, yc]) }
noncomputable def zo1 : Code := Code.part (bodyOf 166) [1, 0, 1, 0, 0, 1, 0, 0, 1, 1, 0, 0, 1, 1, 0, 0, 1, 1, 0, 0]
noncomputable def zbP (O : Oracle E1) (a0 : Yb) (a1 : Yf) (a2 : Yg) (a3 : Int) (a4 : Yb) (a5 : Int) (a6 : Ya) (a7 : Int) (a8 : Yf) (a9 : Int) (a10 : Int) : Option YA := O.L 166 zpq zo1 (a0, a1, a2, a3, a4, a5, a6, a7, a8, a9, a10, ())
noncomputable abbrev zqf : LoopH := { key := 60, ht := [2, 3, 8, 9], hτ := (fs [yg, yi, yf, yc]), ex := 999, ot := [], oτ := (fs []) }
noncomputable def zql : Code := Code.part (bodyOf 137) [1, 1, 1, 0, 0]
noncomputable def zeT (O : Oracle E1) (a0 : Yf) (a1 : Yg) (a2 : Yb) (a3 : Int) : Option ((Unit) ⊕ Yz) := O.L 137 zqf zql (a0, a1, a2, a3, ())
noncomputable abbrev zpO : LoopH := { key := 244, ht := [2, 3, 8, 9, 16, 17, 18], hτ := (fs [yg, yi, ym, yc, yg, yc, yc]), ex := 0, ot := [8, 9], oτ := (fs [ym, yc]) }
noncomputable def zp6 : Code := Code.part (bodyOf 100) [1, 1, 1, 0, 1, 0, 0]
noncomputable def zed (O : Oracle E1) (a0 : Yf) (a1 : Yg) (a2 : Yf) (a3 : Int) (a4 : Yf) (a5 : Int) (a6 : Int) : Option ((Yf × Int × Unit) ⊕ Yk) := O.L 100 zpO zp6 (a0, a1, a2, a3, a4, a5, a6, ())
noncomputable abbrev zr5 : LoopH := { key := 116, ht := [1, 2, 3, 5, 6, 14, 28, 29, 30], hτ := (fs [yo, yd, yc, ya, yi, (.own yg), ya, yc, yc]), ex := 0, ot := [1, 3, 5, 6, 14], oτ := (fs [yo, yc, ya, yi, (.own yg)]) }
noncomputable def zsc : Code := Code.part (bodyOf 66) [1, 1, 0, 1, 0, 0]
noncomputable def zgc (O : Oracle E1) (a0 : YD) (a1 : YE) (a2 : Int) (a3 : Yb) (a4 : Yg) (a5 : YD) (a6 : Yb) (a7 : Int) (a8 : Int) : Option ((YD × Int × Yb × Yg × YD × Unit) ⊕ Yl) := O.L 66 zr5 zsc (a0, a1, a2, a3, a4, a5, a6, a7, a8, ())
noncomputable abbrev zox : LoopH := { key := 8290260, ht := [6, 14, 25, 196, 197, 198], hτ := (fs [yi, yo, ym, yo, yc, yc]), ex := 3, ot := [6, 14, 25], oτ := (fs [yi, yo, ym]) }
noncomputable def zoz : Code := Code.part (bodyOf 66) [1, 1, 1, 1, 1, 0, 0, 1, 1, 1, 1, 1, 1, 1, 1, 1, 0, 1, 0, 1, 0, 0]
noncomputable def zdh (O : Oracle E1) (a0 : Yg) (a1 : YD) (a2 : Yf) (a3 : YD) (a4 : Int) (a5 : Int) : Option ((Yg × YD × Yf × Unit) ⊕ Yl) := O.L 66 zox zoz (a0, a1, a2, a3, a4, a5, ())
noncomputable abbrev zph : LoopH := { key := 116, ht := [0, 1, 12, 13], hτ := (fs [yg, yg, yc, yc]), ex := 0, ot := [], oτ := (fs []) }
noncomputable def zpd : Code := Code.part (bodyOf 77) [1, 1, 0, 1, 0, 0]
noncomputable def zdO (O : Oracle E1) (a0 : Yf) (a1 : Yf) (a2 : Int) (a3 : Int) : Option Yq := O.L 77 zph zpd (a0, a1, a2, a3, ())
noncomputable abbrev zry : LoopH := { key := 116, ht := [1, 2, 3, 14, 15], hτ := (fs [yo, yd, yi, yc, yc]), ex := 0, ot := [], oτ := (fs []) }
noncomputable def zqO : Code := Code.part (bodyOf 34) [1, 1, 0, 1, 0, 0]
noncomputable def zcz (O : Oracle E1) (a0 : YD) (a1 : YE) (a2 : Yg) (a3 : Int) (a4 : Int) : Option ((Unit) ⊕ ((Int × Int × Unit) × (Unit))) := O.L 34 zry zqO (a0, a1, a2, a3, a4, ())
noncomputable abbrev zrf : LoopH := { key := 52, ht := [1, 2, 7, 8, 9], hτ := (fs [yd, yi, yd, yc, yc]), ex := 0, ot := [1, 2], oτ := (fs [yd, yi]) }
noncomputable def zrq : Code := Code.part (bodyOf 41) [1, 0, 1, 0, 0]
noncomputable def zfp (O : Oracle E1) (a0 : YE) (a1 : Yg) (a2 : YE) (a3 : Int) (a4 : Int) : Option ((YE × Yg × Unit) ⊕ Yc) := O.L 41 zrf zrq (a0, a1, a2, a3, a4, ())
noncomputable abbrev zq1 : LoopH := { key := 52, ht := [1, 2, 7, 8, 9], hτ := (fs [yd, yi, yd, yc, yc]), ex := 0, ot := [1, 2], oτ := (fs [yd, yi]) }
noncomputable def zqN : Code := Code.part (bodyOf 49) [1, 0, 1, 0, 0]
noncomputable def zdW (O : Oracle E1) (a0 : YE) (a1 : Yg) (a2 : YE) (a3 : Int) (a4 : Int) : Option ((YE × Yg × Unit) ⊕ Yc) := O.L 49 zq1 zqN (a0, a1, a2, a3, a4, ())
noncomputable abbrev zrl : LoopH := { key := 52, ht := [5, 6, 7], hτ := (fs [yd, yc, yc]), ex := 0, ot := [], oτ := (fs []) }
noncomputable def zri : Code := Code.part (bodyOf 50) [1, 0, 1, 0, 0]
noncomputable def zcA (O : Oracle E1) (a0 : YE) (a1 : Int) (a2 : Int) : Option Ys := O.L 50 zrl zri (a0, a1, a2, ())
noncomputable abbrev zgv : LoopH := { key := 52, ht := [0, 1, 7, 8], hτ := (fs [ya, (.fn 59 (fs [])), yc, yc]), ex := 0, ot := [], oτ := (fs []) }
noncomputable def zgx : Code := Code.part (bodyOf 78) [1, 0, 1, 0, 0]
noncomputable def zaa (O : Oracle E1) (a0 : Yb) (a1 : Unit) (a2 : Int) (a3 : Int) : Option Ys := O.L 3932238 zgv zgx (a0, a1, a2, a3, ())
noncomputable abbrev zog : LoopH := { key := 244, ht := [2, 5, 11, 12, 13], hτ := (fs [yi, yc, ya, yc, yc]), ex := 0, ot := [5], oτ := (fs [yc]) }
noncomputable def zom : Code := Code.part (bodyOf 104) [1, 1, 1, 0, 1, 0, 0]
noncomputable def zbw (O : Oracle E1) (a0 : Yg) (a1 : Int) (a2 : Yb) (a3 : Int) (a4 : Int) : Option ((Int × Unit) ⊕ Yc) := O.L 104 zog zom (a0, a1, a2, a3, a4, ())
noncomputable abbrev zdu : LoopH := { key := 52, ht := [0, 1, 7, 8], hτ := (fs [yg, (.fn 81 yp), yc, yc]), ex := 0, ot := [], oτ := (fs []) }
noncomputable def zdt : Code := Code.part (bodyOf 103) [1, 0, 1, 0, 0]
noncomputable def zz (O : Oracle E1) (a0 : Yf) (a1 : Yg × Unit) (a2 : Int) (a3 : Int) : Option Ys := O.L 5374055 zdu zdt (a0, a1, a2, a3, ())
noncomputable abbrev zcT : LoopH := { key := 52, ht := [0, 1, 7, 8], hτ := (fs [yo, (.fn 61 yp), yc, yc]), ex := 0, ot := [], oτ := (fs []) }
noncomputable def zcQ : Code := Code.part (bodyOf 79) [1, 0, 1, 0, 0]
noncomputable def zj (O : Oracle E1) (a0 : YD) (a1 : Yg × Unit) (a2 : Int) (a3 : Int) : Option Ys := O.L 4063311 zcT zcQ (a0, a1, a2, a3, ())
noncomputable abbrev zhj : LoopH := { key := 52, ht := [0, 1, 7, 8], hτ := (fs [ya, (.fn 70 (fs [(.ptr yd)])), yc, yc]), ex := 0, ot := [], oτ := (fs []) }
noncomputable def zhl : Code := Code.part (bodyOf 78) [1, 0, 1, 0, 0]
noncomputable def zai (O : Oracle E1) (a0 : Yb) (a1 : YE × Unit) (a2 : Int) (a3 : Int) : Option Ys := O.L 4653134 zhj zhl (a0, a1, a2, a3, ())
noncomputable abbrev zro : LoopH := { key := 116, ht := [3, 6, 7, 8], hτ := (fs [yj, yg, yc, yc]), ex := 0, ot := [3], oτ := (fs [yj]) }
noncomputable def zq0 : Code := Code.part (bodyOf 121) [1, 1, 0, 1, 0, 0]
noncomputable def zfs (O : Oracle E1) (a0 : Ym) (a1 : Yf) (a2 : Int) (a3 : Int) : Option Yy := O.L 121 zro zq0 (a0, a1, a2, a3, ())
noncomputable abbrev zrw : LoopH := { key := 244, ht := [3, 4, 15, 16, 17], hτ := (fs [(.map yc), (.own yf), yl, yc, yc]), ex := 0, ot := [4], oτ := (fs [(.own yf)]) }
noncomputable def zre : Code := Code.part (bodyOf 140) [1, 1, 1, 0, 1, 0, 0]
noncomputable def zfD (O : Oracle E1) (a0 : List (Int × Int)) (a1 : Ym) (a2 : Ym) (a3 : Int) (a4 : Int) : Option Yy := O.L 140 zrw zre (a0, a1, a2, a3, a4, ())
noncomputable abbrev zpS : LoopH := { key := 125340, ht := [3, 4, 5, 15, 16, 17, 27, 28, 29], hτ := (fs [(.map yc), (.own yf), yc, yl, yc, yc, ya, yc, yc]), ex := 2, ot := [3, 4, 15, 16, 17], oτ := (fs [(.map yc), (.own yf), yl, yc, yc]) }
noncomputable def zpW : Code := Code.part (bodyOf 140) [1, 1, 1, 0, 1, 0, 0, 1, 1, 0, 0, 1, 1, 1, 0, 0]
noncomputable def zd7 (O : Oracle E1) (a0 : List (Int × Int)) (a1 : Ym) (a2 : Int) (a3 : Ym) (a4 : Int) (a5 : Int) (a6 : Yb) (a7 : Int) (a8 : Int) : Option (YB ⊕ Yh) := O.L 140 zpS zpW (a0, a1, a2, a3, a4, a5, a6, a7, a8, ())
noncomputable abbrev zmL : LoopH := { key := 116, ht := [0, 1, 12, 13], hτ := (fs [ya, ya, yc, yc]), ex := 0, ot := [], oτ := (fs []) }
noncomputable def zmD : Code := Code.part (bodyOf 94) [1, 1, 0, 1, 0, 0]
noncomputable def zb8 (O : Oracle E1) (a0 : Yb) (a1 : Yb) (a2 : Int) (a3 : Int) : Option Yq := O.L 94 zmL zmD (a0, a1, a2, a3, ())
noncomputable abbrev zeW : LoopH := { key := 52, ht := [0, 1, 7, 8], hτ := (fs [yg, (.fn 141 (fs [(.ptr yb)])), yc, yc]), ex := 0, ot := [], oτ := (fs []) }
noncomputable def zeV : Code := Code.part (bodyOf 103) [1, 0, 1, 0, 0]
noncomputable def zO (O : Oracle E1) (a0 : Yf) (a1 : Ya × Unit) (a2 : Int) (a3 : Int) : Option Ys := O.L 9306215 zeW zeV (a0, a1, a2, a3, ())
noncomputable abbrev ztM : LoopH := { key := 116, ht := [3, 6, 7, 8], hτ := (fs [ym, yg, yc, yc]), ex := 0, ot := [3], oτ := (fs [ym]) }
noncomputable def zty : Code := Code.part (bodyOf 106) [1, 1, 0, 1, 0, 0]
noncomputable def zen (O : Oracle E1) (a0 : Yf) (a1 : Yf) (a2 : Int) (a3 : Int) : Option Yw := O.L 106 ztM zty (a0, a1, a2, a3, ())
noncomputable abbrev zmQ : LoopH := { key := 52, ht := [0, 1, 7, 8], hτ := (fs [ya, yc, yc, yc]), ex := 0, ot := [], oτ := (fs []) }
noncomputable def zmG : Code := Code.part (bodyOf 170) [1, 0, 1, 0, 0]
noncomputable def zb6 (O : Oracle E1) (a0 : Yb) (a1 : Int) (a2 : Int) (a3 : Int) : Option Ys := O.L 170 zmQ zmG (a0, a1, a2, a3, ())
noncomputable abbrev zgh : LoopH := { key := 52, ht := [0, 1, 7, 8], hτ := (fs [yl, (.fn 168 (fs [(.ptr yc)])), yc, yc]), ex := 0, ot := [], oτ := (fs []) }
noncomputable def zga : Code := Code.part (bodyOf 181) [1, 0, 1, 0, 0]
noncomputable def z9 (O : Oracle E1) (a0 : Ym) (a1 : Int × Unit) (a2 : Int) (a3 : Int) : Option Ys := O.L 11075765 zgh zga (a0, a1, a2, a3, ())
noncomputable abbrev zsh : LoopH := { key := 116, ht := [0, 3, 5], hτ := (fs [yl, yf, yc]), ex := 0, ot := [3], oτ := (fs [yf]) }
noncomputable def zsb : Code := Code.part (bodyOf 144) [1, 1, 0, 1, 0, 0]
noncomputable def zgj (O : Oracle E1) (a0 : Ym) (a1 : Yb) (a2 : Int) : Option YF := O.L 144 zsh zsb (a0, a1, a2, ())
noncomputable abbrev zs8 : LoopH := { key := 116, ht := [1, 5, 11, 12], hτ := (fs [yc, yf, yc, yc]), ex := 0, ot := [5], oτ := (fs [yf]), hal := [(10, 5)] }
noncomputable def zsD : Code := Code.part (bodyOf 145) [1, 1, 0, 1, 0, 0]
noncomputable def zgU (O : Oracle E1) (a0 : Int) (a1 : Yb) (a2 : Int) (a3 : Int) : Option YF := O.L 145 zs8 zsD (a0, a1, a2, a3, ())
noncomputable abbrev zez : LoopH := { key := 52, ht := [0, 1, 7, 8], hτ := (fs [yl, (.fn 169 yp), yc, yc]), ex := 0, ot := [], oτ := (fs []) }
noncomputable def zey : Code := Code.part (bodyOf 181) [1, 0, 1, 0, 0]
noncomputable def zJ (O : Oracle E1) (a0 : Ym) (a1 : Yg × Unit) (a2 : Int) (a3 : Int) : Option Ys := O.L 11141301 zez zey (a0, a1, a2, a3, ())
noncomputable abbrev zoN : LoopH := { key := 500, ht := [2, 3, 8, 10, 29, 30], hτ := (fs [yg, yi, yc, yv, yc, yc]), ex := 0, ot := [2, 3, 10], oτ := (fs [yg, yi, yv]), hal := [(28, 10)] }
noncomputable def zoS : Code := Code.part (bodyOf 110) [1, 1, 1, 1, 0, 1, 0, 0]
noncomputable def zca (O : Oracle E1) (a0 : Yf) (a1 : Yg) (a2 : Int) (a3 : List Yu) (a4 : Int) (a5 : Int) : Option ((Yf × Yg × (List Yu) × Unit) ⊕ Yl) := O.L 110 zoN zoS (a0, a1, a2, a3, a4, a5, ())
noncomputable abbrev zqi : LoopH := { key := 52, ht := [1, 2, 3, 7], hτ := (fs [ya, yc, yi, yc]), ex := 0, ot := [2], oτ := (fs [yc]) }
noncomputable def zqe : Code := Code.part (bodyOf 148) [1, 0, 1, 0, 0]
noncomputable def zeL (O : Oracle E1) (a0 : Yb) (a1 : Int) (a2 : Yg) (a3 : Int) : Option Yv := O.L 148 zqi zqe (a0, a1, a2, a3, ())
noncomputable abbrev zsA : LoopH := { key := 116, ht := [0, 6, 9, 10, 11], hτ := (fs [yl, yf, ya, yc, yc]), ex := 0, ot := [6], oτ := (fs [yf]) }
noncomputable def zsQ : Code := Code.part (bodyOf 114) [1, 1, 0, 1, 0, 0]
noncomputable def ze7 (O : Oracle E1) (a0 : Ym) (a1 : Yb) (a2 : Yb) (a3 : Int) (a4 : Int) : Option (Yg ⊕ Yr) := O.L 114 zsA zsQ (a0, a1, a2, a3, a4, ())
noncomputable abbrev zpi : LoopH := { key := 28, ht := [1, 2, 3, 8], hτ := (fs [ya, ya, yi, yj]), ex := 999, ot := [], oτ := (fs []) }
noncomputable def zoY : Code := Code.part (bodyOf 111) [1, 1, 0, 0]
noncomputable def zaH (O : Oracle E1) (a0 : Yb) (a1 : Yb) (a2 : Yg) (a3 : Ym) : Option ((Unit) ⊕ Yi) := O.L 111 zpi zoY (a0, a1, a2, a3, ())
noncomputable abbrev zoM : LoopH := { key := 904, ht := [1, 2, 3, 8, 9], hτ := (fs [ya, ya, yi, yj, yc]), ex := 2, ot := [1, 2, 3, 8, 9], oτ := (fs [ya, ya, yi, yj, yc]) }
noncomputable def zoF : Code := Code.part (bodyOf 111) [1, 1, 0, 0, 0, 1, 0, 0, 0]
noncomputable def zdb (O : Oracle E1) (a0 : Yb) (a1 : Yb) (a2 : Yg) (a3 : Ym) (a4 : Int) : Option ((Yb × Yb × Yg × Ym × Int × Unit) ⊕ Yi) := O.L 111 zoM zoF (a0, a1, a2, a3, a4, ())
noncomputable abbrev zmK : LoopH := { key := 3735540, ht := [1, 2, 3, 8, 10, 11, 12, 147, 148], hτ := (fs [yf, yf, yi, yj, yc, ya, yj, yc, yc]), ex := 5, ot := [1, 2, 3, 8, 10, 11], oτ := (fs [yf, yf, yi, yj, yc, ya]), hal := [(146, 8)] }
noncomputable def zmE : Code := Code.part (bodyOf 111) [1, 1, 0, 0, 0, 1, 1, 1, 1, 1, 1, 1, 1, 1, 1, 1, 1, 0, 1, 0, 0]
noncomputable def zG (O : Oracle E1) (a0 : Yb) (a1 : Yb) (a2 : Yg) (a3 : Ym) (a4 : Int) (a5 : Yb) (a6 : Ym) (a7 : Int) (a8 : Int) : Option (Yx ⊕ Yi) := O.L 111 zmK zmE (a0, a1, a2, a3, a4, a5, a6, a7, a8, ())
noncomputable abbrev zoH : LoopH := { key := 116, ht := [0, 1, 6, 13, 14], hτ := (fs [yl, yg, yv, yc, yc]), ex := 0, ot := [1, 6], oτ := (fs [yg, yv]), hal := [(12, 6)] }
noncomputable def zoR : Code := Code.part (bodyOf 113) [1, 1, 0, 1, 0, 0]
noncomputable def zdk (O : Oracle E1) (a0 : Ym) (a1 : Yf) (a2 : List Yu) (a3 : Int) (a4 : Int) : Option ((Yf × (List Yu) × Unit) ⊕ Yl) := O.L 113 zoH zoR (a0, a1, a2, a3, a4, ())
noncomputable abbrev zmq : LoopH := { key := 116, ht := [0, 3, 9, 10, 11], hτ := (fs [yl, yc, yl, yc, yc]), ex := 0, ot := [0, 3], oτ := (fs [yl, yc]) }
noncomputable def zmf : Code := Code.part (bodyOf 149) [1, 1, 0, 1, 0, 0]
noncomputable def zbV (O : Oracle E1) (a0 : Ym) (a1 : Int) (a2 : Ym) (a3 : Int) (a4 : Int) : Option ((Ym × Int × Unit) ⊕ Yo) := O.L 149 zmq zmf (a0, a1, a2, a3, a4, ())
noncomputable abbrev zl2 : LoopH := { key := 500, ht := [6, 25, 26, 27], hτ := (fs [yf, yl, yc, yc]), ex := 2, ot := [6], oτ := (fs [yf]) }
noncomputable def zlM : Code := Code.part (bodyOf 149) [1, 1, 1, 1, 0, 1, 0, 0]
noncomputable def zbL (O : Oracle E1) (a0 : Yb) (a1 : Ym) (a2 : Int) (a3 : Int) : Option YF := O.L 149 zl2 zlM (a0, a1, a2, a3, ())
noncomputable abbrev zi8 : LoopH := { key := 116, ht := [0, 3, 9, 10, 11], hτ := (fs [yo, yc, yo, yc, yc]), ex := 0, ot := [0, 3], oτ := (fs [yo, yc]) }
noncomputable def zi7 : Code := Code.part (bodyOf 116) [1, 1, 0, 1, 0, 0]
noncomputable def zaQ (O : Oracle E1) (a0 : YD) (a1 : Int) (a2 : YD) (a3 : Int) (a4 : Int) : Option ((YD × Int × Unit) ⊕ Yj) := O.L 116 zi8 zi7 (a0, a1, a2, a3, a4, ())
noncomputable abbrev ziN : LoopH := { key := 500, ht := [6, 25, 26, 27], hτ := (fs [ym, yo, yc, yc]), ex := 2, ot := [6], oτ := (fs [ym]) }
noncomputable def ziU : Code := Code.part (bodyOf 116) [1, 1, 1, 1, 0, 1, 0, 0]
noncomputable def zaF (O : Oracle E1) (a0 : Yf) (a1 : YD) (a2 : Int) (a3 : Int) : Option Yw := O.L 116 ziN ziU (a0, a1, a2, a3, ())
noncomputable abbrev zsK : LoopH := { key := 116, ht := [1, 5, 8, 9, 10], hτ := (fs [yc, yc, ya, yc, yc]), ex := 0, ot := [5], oτ := (fs [yc]) }
noncomputable def zsC : Code := Code.part (bodyOf 193) [1, 1, 0, 1, 0, 0]
noncomputable def zg7 (O : Oracle E1) (a0 : Int) (a1 : Int) (a2 : Yb) (a3 : Int) (a4 : Int) : Option Yv := O.L 193 zsK zsC (a0, a1, a2, a3, a4, ())
noncomputable abbrev zo7 : LoopH := { key := 52, ht := [0, 1, 6], hτ := (fs [ya, ya, yc]), ex := 0, ot := [], oτ := (fs []) }
noncomputable def zo9 : Code := Code.part (bodyOf 182) [1, 0, 1, 0, 0]
noncomputable def zdD (O : Oracle E1) (a0 : Yb) (a1 : Yb) (a2 : Int) : Option Yq := O.L 182 zo7 zo9 (a0, a1, a2, ())
noncomputable abbrev zpn : LoopH := { key := 244, ht := [1, 23, 24, 25], hτ := (fs [ya, ya, yc, yc]), ex := 0, ot := [], oτ := (fs []) }
noncomputable def zo4 : Code := Code.part (bodyOf 172) [1, 1, 1, 0, 1, 0, 0]
noncomputable def zdK (O : Oracle E1) (a0 : Yb) (a1 : Yb) (a2 : Int) (a3 : Int) : Option Yq := O.L 172 zpn zo4 (a0, a1, a2, a3, ())
noncomputable abbrev zfo : LoopH := { key := 52, ht := [0, 1, 7, 8], hτ := (fs [yl, (.fn 194 (fs [ys])), yc, yc]), ex := 0, ot := [], oτ := (fs []) }
noncomputable def zfG : Code := Code.part (bodyOf 181) [1, 0, 1, 0, 0]
noncomputable def zV (O : Oracle E1) (a0 : Ym) (a1 : Yg) (a2 : Int) (a3 : Int) : Option Ys := O.L 12779701 zfo zfG (a0, a1, a2, a3, ())
noncomputable abbrev zps : LoopH := { key := 52, ht := [0, 7, 8, 9], hτ := (fs [yl, yl, yc, yc]), ex := 0, ot := [0], oτ := (fs [yl]) }
noncomputable def zpT : Code := Code.part (bodyOf 186) [1, 0, 1, 0, 0]
noncomputable def zef (O : Oracle E1) (a0 : Ym) (a1 : Ym) (a2 : Int) (a3 : Int) : Option ((Ym × Unit) ⊕ Yc) := O.L 186 zps zpT (a0, a1, a2, a3, ())
noncomputable abbrev zeP : LoopH := { key := 52, ht := [0, 1, 7, 8], hτ := (fs [yl, (.fn 184 (fs [ys])), yc, yc]), ex := 0, ot := [], oτ := (fs []) }
noncomputable def zeK : Code := Code.part (bodyOf 181) [1, 0, 1, 0, 0]
noncomputable def zg (O : Oracle E1) (a0 : Ym) (a1 : Yg) (a2 : Int) (a3 : Int) : Option Ys := O.L 12124341 zeP zeK (a0, a1, a2, a3, ())
noncomputable abbrev zn8 : LoopH := { key := 244, ht := [5, 6, 12, 13, 14], hτ := (fs [yj, yj, yl, yc, yc]), ex := 0, ot := [5, 6], oτ := (fs [yj, yj]) }
noncomputable def zoc : Code := Code.part (bodyOf 173) [1, 1, 1, 0, 1, 0, 0]
noncomputable def zcx (O : Oracle E1) (a0 : Ym) (a1 : Ym) (a2 : Ym) (a3 : Int) (a4 : Int) : Option ((Ym × Ym × Unit) ⊕ Ye) := O.L 173 zn8 zoc (a0, a1, a2, a3, a4, ())
noncomputable abbrev zpE : LoopH := { key := 52, ht := [0, 1, 7, 8, 9], hτ := (fs [yg, yc, yg, yc, yc]), ex := 0, ot := [], oτ := (fs []) }
noncomputable def zpV : Code := Code.part (bodyOf 119) [1, 0, 1, 0, 0]
noncomputable def zcN (O : Oracle E1) (a0 : Yf) (a1 : Int) (a2 : Yf) (a3 : Int) (a4 : Int) : Option Yq := O.L 119 zpE zpV (a0, a1, a2, a3, a4, ())
noncomputable abbrev zoW : LoopH := { key := 244, ht := [1, 3, 4, 10, 18, 19, 20], hτ := (fs [yj, ya, yi, yc, ya, yc, yc]), ex := 0, ot := [1, 3, 10], oτ := (fs [yj, ya, yc]) }
noncomputable def zoT : Code := Code.part (bodyOf 187) [1, 1, 1, 0, 1, 0, 0]
noncomputable def zaW (O : Oracle E1) (a0 : Ym) (a1 : Yb) (a2 : Yg) (a3 : Int) (a4 : Yb) (a5 : Int) (a6 : Int) : Option ((Ym × Yb × Int × Unit) ⊕ Yi) := O.L 187 zoW zoT (a0, a1, a2, a3, a4, a5, a6, ())
noncomputable abbrev zto : LoopH := { key := 52, ht := [0, 6, 7], hτ := (fs [yj, yc, yc]), ex := 0, ot := [0], oτ := (fs [yj]), hal := [(5, 0)] }
noncomputable def ztH : Code := Code.part (bodyOf 188) [1, 0, 1, 0, 0]
noncomputable def zhP (O : Oracle E1) (a0 : Ym) (a1 : Int) (a2 : Int) : Option Yy := O.L 188 zto ztH (a0, a1, a2, ())
noncomputable abbrev znG : LoopH := { key := 1012, ht := [1, 12, 41, 42], hτ := (fs [ya, yf, yc, yc]), ex := 0, ot := [12], oτ := (fs [yf]), hal := [(40, 12)] }
noncomputable def zof : Code := Code.part (bodyOf 175) [1, 1, 1, 1, 1, 0, 1, 0, 0]
noncomputable def zbN (O : Oracle E1) (a0 : Yb) (a1 : Yb) (a2 : Int) (a3 : Int) : Option (Yg ⊕ Yr) := O.L 175 znG zof (a0, a1, a2, a3, ())
noncomputable abbrev zpB : LoopH := { key := 52, ht := [1, 2, 3, 10], hτ := (fs [ya, yg, yi, yc]), ex := 0, ot := [], oτ := (fs []) }
noncomputable def zpu : Code := Code.part (bodyOf 153) [1, 0, 1, 0, 0]
noncomputable def zb3 (O : Oracle E1) (a0 : Yb) (a1 : Yf) (a2 : Yg) (a3 : Int) : Option ((Unit) ⊕ Yn) := O.L 153 zpB zpu (a0, a1, a2, a3, ())
noncomputable abbrev zoU : LoopH := { key := 6732, ht := [1, 2, 3, 10, 11, 30, 31, 32], hτ := (fs [ya, yg, yi, yc, yf, yg, yc, yc]), ex := 2, ot := [1, 2, 3, 10], oτ := (fs [ya, yg, yi, yc]) }
noncomputable def zoJ : Code := Code.part (bodyOf 153) [1, 0, 1, 0, 0, 1, 0, 0, 1, 1, 0, 0]
noncomputable def zbJ (O : Oracle E1) (a0 : Yb) (a1 : Yf) (a2 : Yg) (a3 : Int) (a4 : Yb) (a5 : Yf) (a6 : Int) (a7 : Int) : Option YI := O.L 153 zoU zoJ (a0, a1, a2, a3, a4, a5, a6, a7, ())
noncomputable abbrev zoa : LoopH := { key := 1723596, ht := [1, 2, 3, 10, 11, 12, 13, 30, 31, 32, 37], hτ := (fs [ya, yg, yi, yc, yf, yc, (.box yb), yg, yc, yc, yc]), ex := 4, ot := [1, 2, 3, 10, 11, 30, 31, 32], oτ := (fs [ya, yg, yi, yc, yf, yg, yc, yc]) }
noncomputable def zn9 : Code := Code.part (bodyOf 153) [1, 0, 1, 0, 0, 1, 0, 0, 1, 1, 0, 0, 1, 1, 0, 0, 1, 1, 0, 0]
noncomputable def zbp (O : Oracle E1) (a0 : Yb) (a1 : Yf) (a2 : Yg) (a3 : Int) (a4 : Yb) (a5 : Int) (a6 : Ya) (a7 : Yf) (a8 : Int) (a9 : Int) (a10 : Int) : Option YA := O.L 153 zoa zn9 (a0, a1, a2, a3, a4, a5, a6, a7, a8, a9, a10, ())
noncomputable abbrev zoD : LoopH := { key := 60, ht := [1, 2, 3, 8], hτ := (fs [yf, yg, yi, yc]), ex := 999, ot := [], oτ := (fs []) }
noncomputable def zoG : Code := Code.part (bodyOf 122) [1, 1, 1, 0, 0]
noncomputable def zdl (O : Oracle E1) (a0 : Yb) (a1 : Yf) (a2 : Yg) (a3 : Int) : Option ((Unit) ⊕ Yz) := O.L 122 zoD zoG (a0, a1, a2, a3, ())
noncomputable abbrev zln : LoopH := { key := 244, ht := [1, 2, 3, 8, 9, 16, 17], hτ := (fs [yg, yg, yi, yv, yc, yc, yc]), ex := 0, ot := [1, 8, 9], oτ := (fs [yg, yv, yc]), hal := [(15, 8)] }
noncomputable def zlo : Code := Code.part (bodyOf 91) [1, 1, 1, 0, 1, 0, 0]
noncomputable def zbF (O : Oracle E1) (a0 : Yf) (a1 : Yf) (a2 : Yg) (a3 : List Yu) (a4 : Int) (a5 : Int) (a6 : Int) : Option ((Yf × (List Yu) × Int × Unit) ⊕ Yk) := O.L 91 zln zlo (a0, a1, a2, a3, a4, a5, a6, ())
noncomputable abbrev znt : LoopH := { key := 8060852, ht := [6, 10, 14, 16, 17], hτ := (fs [yi, ys, (.fn 83 (fs [(.ptr yd), ys])), ym, yc]), ex := 1, ot := [6, 14, 16], oτ := (fs [yi, (.fn 83 (fs [(.ptr yd), ys])), ym]) }
noncomputable def znp : Code := Code.part (bodyOf 63) [1, 1, 1, 0, 1, 0, 1, 1, 1, 1, 1, 1, 1, 1, 1, 0, 1, 1, 0, 1, 0, 0]
noncomputable def zch (O : Oracle E1) (a0 : Yg) (a1 : Yb) (a2 : YE × Yb × Unit) (a3 : Yf) (a4 : Int) : Option ((Yg × (YE × Yb × Unit) × Yf × Unit) ⊕ Yl) := O.L 63 znt znp (a0, a1, a2, a3, a4, ())
noncomputable abbrev zbS : LoopH := { key := 116, ht := [1, 2, 15, 16, 17], hτ := (fs [yg, (.fn 93 (fs [])), yg, yc, yc]), ex := 0, ot := [], oτ := (fs []) }
noncomputable def zbT : Code := Code.part (bodyOf 92) [1, 1, 0, 1, 0, 0]
noncomputable def zh (O : Oracle E1) (a0 : Yf) (a1 : Unit) (a2 : Yf) (a3 : Int) (a4 : Int) : Option Yq := O.L 6160476 zbS zbT (a0, a1, a2, a3, a4, ())
noncomputable abbrev zoL : LoopH := { key := 244, ht := [1, 2, 3, 24, 25, 26], hτ := (fs [yo, yd, yi, yd, yc, yc]), ex := 0, ot := [], oτ := (fs []) }
noncomputable def zoC : Code := Code.part (bodyOf 13) [1, 1, 1, 0, 1, 0, 0]
noncomputable def zbK (O : Oracle E1) (a0 : YD) (a1 : YE) (a2 : Yg) (a3 : YE) (a4 : Int) (a5 : Int) : Option ((Unit) ⊕ YH) := O.L 13 zoL zoC (a0, a1, a2, a3, a4, a5, ())
noncomputable abbrev zc2 : LoopH := { key := 52, ht := [0, 1, 7, 8], hτ := (fs [yd, (.fn 69 yp), yc, yc]), ex := 0, ot := [], oτ := (fs []) }
noncomputable def zc4 : Code := Code.part (bodyOf 73) [1, 0, 1, 0, 0]
noncomputable def zt (O : Oracle E1) (a0 : YE) (a1 : Yg × Unit) (a2 : Int) (a3 : Int) : Option Ys := O.L 4587593 zc2 zc4 (a0, a1, a2, a3, ())
noncomputable abbrev zpY : LoopH := { key := 116, ht := [1, 16, 17, 18], hτ := (fs [yd, yd, yc, yc]), ex := 0, ot := [], oτ := (fs []) }
noncomputable def zpD : Code := Code.part (bodyOf 51) [1, 1, 0, 1, 0, 0]
noncomputable def zeh (O : Oracle E1) (a0 : YE) (a1 : YE) (a2 : Int) (a3 : Int) : Option Yq := O.L 51 zpY zpD (a0, a1, a2, a3, ())
noncomputable abbrev zdw : LoopH := { key := 52, ht := [0, 1, 7, 8], hτ := (fs [yd, (.fn 74 (fs [])), yc, yc]), ex := 0, ot := [], oτ := (fs []) }
noncomputable def zdx : Code := Code.part (bodyOf 73) [1, 0, 1, 0, 0]
noncomputable def zf (O : Oracle E1) (a0 : YE) (a1 : Unit) (a2 : Int) (a3 : Int) : Option Ys := O.L 4915273 zdw zdx (a0, a1, a2, a3, ())
end Go.Proofs.YtkgpnekonnopgaaGreatIr.Ev
