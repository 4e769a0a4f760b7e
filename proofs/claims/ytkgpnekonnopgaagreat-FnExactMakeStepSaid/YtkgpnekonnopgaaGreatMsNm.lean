/- A text of its own: Nm; no condition but those that each theorem names. -/
import Derived.Test.YtkgpnekonnopgaaGreatMsEnv
import Derived.Test.YtkgpnekonnopgaaGreatMsEvWt
namespace Go.Proofs.YtkgpnekonnopgaaGreatMs.Ev
open Go Go.IntKind
set_option maxRecDepth 100000
set_option autoImplicit false
set_option linter.unusedVariables false
abbrev Ya := Bool × (List Int) × (List Int) × Unit
abbrev Yb := List Int
abbrev Yc := (Bool × Unit) × (Unit)
abbrev Yd := Int × Yb × Yb × (List Ya) × Unit
abbrev Ye := (Int × Unit) × (Unit)
abbrev Yf := List Ya
abbrev Yg := Yb × Unit
abbrev Yh := ((List Yb) × Unit) × (Unit)
abbrev Yi := ((List Yb) × Bool × Unit) × (Unit)
abbrev Yj := (Yf × Unit) × (Unit)
abbrev Yk := (Yf × Int × Unit) × (Unit)
abbrev Yl := (Yf × Bool × Unit) × (Unit)
abbrev Ym := List Yb
abbrev Yn := (Yb × Int × Int × Bool × Unit) × (Unit)
abbrev Yo := Yg × (Unit)
abbrev Yp := Yg × (Int × Int × Int × Int × Int × Unit) × Yb × Yb × Yb × Yb × Ym × Yf × Yf × Yf × Unit
abbrev Yq := Int × Unit
abbrev Yr := (Yb × Bool × Unit) × (Unit)
abbrev Ys := (Unit) ⊕ Yc
abbrev Yt := (Yf × Int × Unit) ⊕ (Yf × Bool × Unit) × (Unit)
abbrev Yu := Option (Bool × List Int)
abbrev Yv := (Unit) ⊕ Ye
abbrev Yw := (Yf × Unit) ⊕ Yj
abbrev Yx := (Yd × Bool × Unit) × (Unit)
abbrev Yy := Yb × Yb × Yg × Ym × Int × Yb × Unit
abbrev Yz := (Ym × Unit) ⊕ Yh
abbrev YA := (Yb × Int × Unit) × (Unit)
abbrev YB := (Yb × Yf × Yg × Int × Yb × Yf × Int × Int × Unit) ⊕ Yn
abbrev YC := List Yf
abbrev YD := (List (Int × Int)) × Ym × Ym × Int × Int × Unit
abbrev YE := (List Yd) × Unit
abbrev YF := Yq ⊕ Ye
abbrev YG := Yb × Ym × Yb × Int × Ym × Int × Int × Yb × Int × Int × Unit
abbrev YH := Yg ⊕ Yo
abbrev YI := (Int × Yb × Yg × YC × Yf × Int × Bool × Unit) ⊕ Yt
abbrev YJ := (Yb × Yf × Yg × Int × Unit) ⊕ Yn
abbrev YK := ((List (Int × Int)) × Ym × Int × Ym × Int × Int × Yb × Int × Int × Unit) ⊕ (YD ⊕ (Yh))
abbrev YL := Ym × Ym × Yb × Int × Ym × Int × Int × Unit
abbrev YM := Ym × Yb × Yg × Int × Yb × Int × Int × Unit
noncomputable abbrev M : Oracle E1 := Lm E1
noncomputable def zdE (O : Oracle E1) (a0 : Yb) (a1 : Int) : Option Ye := O.C 30 (a0, a1, ())
noncomputable def zjR (O : Oracle E1) (a0 : Yg) (a1 : Int) : Option Ye := O.C 6 (a0, a1, ())
noncomputable def zko (O : Oracle E1) (a0 : Ya) (a1 : Int) : Option Ye := O.C 53 (a0, a1, ())
noncomputable def zh7 (O : Oracle E1) (a0 : Yf) (a1 : Int) : Option Ye := O.C 31 (a0, a1, ())
noncomputable def zi4 (O : Oracle E1) (a0 : YC) (a1 : Int) : Option Ye := O.C 7 (a0, a1, ())
noncomputable def zjT (O : Oracle E1) (a0 : Yd) (a1 : Int) : Option Ye := O.C 32 (a0, a1, ())
noncomputable def zjd (O : Oracle E1) (a0 : List Yd) (a1 : Int) : Option Ye := O.C 8 (a0, a1, ())
noncomputable def zaw (O : Oracle E1) (a0 : Yb) : Option Yo := O.C 18 (a0, ())
noncomputable def ze4 (O : Oracle E1) (a0 : Yg) : Option ((Yg × Unit) × (Unit)) := O.C 10 (a0, ())
noncomputable def zk2 (O : Oracle E1) (a0 : Ya) : Option ((Ya × Unit) × (Unit)) := O.C 57 (a0, ())
noncomputable def zh4 (O : Oracle E1) (a0 : Yf) : Option Yj := O.C 35 (a0, ())
noncomputable def zdZ (O : Oracle E1) (a0 : YC) : Option ((YC × Unit) × (Unit)) := O.C 11 (a0, ())
noncomputable def zjJ (O : Oracle E1) (a0 : Yd) : Option ((Yd × Unit) × (Unit)) := O.C 36 (a0, ())
noncomputable def zd2 (O : Oracle E1) (a0 : List Yd) : Option (YE × (Unit)) := O.C 12 (a0, ())
noncomputable def zcc (O : Oracle E1) (a0 : Yb) (a1 : Yb) : Option Yc := O.C 21 (a0, a1, ())
noncomputable def zjO (O : Oracle E1) (a0 : Yg) (a1 : Yg) : Option Yc := O.C 14 (a0, a1, ())
noncomputable def zkD (O : Oracle E1) (a0 : Ya) (a1 : Ya) : Option Yc := O.C 65 (a0, a1, ())
noncomputable def zhY (O : Oracle E1) (a0 : Yf) (a1 : Yf) : Option Yc := O.C 40 (a0, a1, ())
noncomputable def zi8 (O : Oracle E1) (a0 : YC) (a1 : YC) : Option Yc := O.C 15 (a0, a1, ())
noncomputable def ze7 (O : Oracle E1) (a0 : Yd) (a1 : Yd) : Option Yc := O.C 20 (a0, a1, ())
noncomputable def zje (O : Oracle E1) (a0 : List Yd) (a1 : List Yd) : Option Yc := O.C 16 (a0, a1, ())
noncomputable def zay (O : Oracle E1) (a0 : Int) (a1 : Int) (a2 : Int) : Option Yc := O.C 76 (a0, a1, a2, ())
noncomputable def zep (O : Oracle E1) (a0 : Yg) (a1 : Yb) (a2 : Int) : Option Ye := O.C 138 (a0, a1, a2, ())
noncomputable def zcb (O : Oracle E1) (a0 : Yg) (a1 : Yb) : Option Yc := O.C 101 (a0, a1, ())
noncomputable def zhu (O : Oracle E1) (a0 : Yg) (a1 : Ya) : Option Yc := O.C 75 (a0, a1, ())
noncomputable def zaO (O : Oracle E1) (a0 : Yg) (a1 : Yf) : Option Yc := O.C 54 (a0, a1, ())
noncomputable def zkW (O : Oracle E1) (a0 : Yb) (a1 : Int) (a2 : Int) : Option Yc := O.C 72 (a0, a1, a2, ())
noncomputable def zgO (O : Oracle E1) (a0 : Yg) : Option Yc := O.C 55 (a0, ())
noncomputable def zeT (O : Oracle E1) (a0 : Yg) (a1 : YC) : Option Yc := O.C 33 (a0, a1, ())
noncomputable def zjh (O : Oracle E1) (a0 : Yg) (a1 : List Yd) : Option Yc := O.C 41 (a0, a1, ())
noncomputable def zdr (O : Oracle E1) (a0 : Yb) (a1 : Int) : Option Yc := O.C 161 (a0, a1, ())
noncomputable def ziB (O : Oracle E1) (a0 : Ym) : Option Yh := O.C 154 (a0, ())
noncomputable def zi5 (O : Oracle E1) (a0 : Yf) : Option Yh := O.C 155 (a0, ())
noncomputable def ziF (O : Oracle E1) (a0 : Yf) : Option Yj := O.C 124 (a0, ())
noncomputable def zbk (O : Oracle E1) (a0 : Yb) (a1 : Yb) : Option Yc := O.C 102 (a0, a1, ())
noncomputable def zaY (O : Oracle E1) (a0 : Yb) : Option Yo := O.C 67 (a0, ())
noncomputable def zhs (O : Oracle E1) (a0 : Yf) : Option Yj := O.C 136 (a0, ())
noncomputable def zgw (O : Oracle E1) (a0 : Ya) (a1 : Ya) : Option Yc := O.C 156 (a0, a1, ())
noncomputable def zjL (O : Oracle E1) (a0 : Yf) : Option Yj := O.C 125 (a0, ())
noncomputable def za9 (O : Oracle E1) (a0 : Yf) : Option Yj := O.C 95 (a0, ())
noncomputable def zfZ (O : Oracle E1) (a0 : Yf) (a1 : Int) (a2 : Int) : Option Yc := O.C 126 (a0, a1, a2, ())
noncomputable def zbl (O : Oracle E1) (a0 : Ya) (a1 : Int) : Option ((Yb × Yb × Unit) × (Unit)) := O.C 127 (a0, a1, ())
noncomputable def ziX (O : Oracle E1) (a0 : Yb) (a1 : Int) : Option Yo := O.C 190 (a0, a1, ())
noncomputable def ze6 (O : Oracle E1) (a0 : Yb) : Option Yo := O.C 189 (a0, ())
noncomputable def zjP (O : Oracle E1) (a0 : Yf) : Option Yo := O.C 176 (a0, ())
noncomputable def zjg (O : Oracle E1) (a0 : Yf) : Option Ye := O.C 157 (a0, ())
noncomputable def zhp (O : Oracle E1) (a0 : Yb) (a1 : Int) : Option Yo := O.C 158 (a0, a1, ())
noncomputable def zjX (O : Oracle E1) (a0 : Yg) (a1 : Yf) : Option Yl := O.C 159 (a0, a1, ())
noncomputable def zjc (O : Oracle E1) (a0 : Yg) (a1 : Yf) (a2 : Yf) : Option Yl := O.C 128 (a0, a1, a2, ())
noncomputable def zbw (O : Oracle E1) (a0 : Yg) (a1 : Yb) (a2 : Int) : Option Yo := O.C 130 (a0, a1, a2, ())
noncomputable def zq (O : Oracle E1) (a0 : Ym) (a1 : Yb) : Option Yo := O.C 132 (a0, a1, ())
noncomputable def zhv (O : Oracle E1) (a0 : Yg) (a1 : Ym) (a2 : Yb) (a3 : Yb) : Option Yc := O.C 160 (a0, a1, a2, a3, ())
noncomputable def zgo (O : Oracle E1) (a0 : Ym) (a1 : Int) (a2 : Yb) : Option Yh := O.C 162 (a0, a1, a2, ())
noncomputable def zfI (O : Oracle E1) (a0 : Yg) (a1 : Yb) (a2 : Yb) : Option Yi := O.C 129 (a0, a1, a2, ())
noncomputable def zd4 (O : Oracle E1) (a0 : Ym) (a1 : Yf) : Option Yj := O.C 131 (a0, a1, ())
noncomputable def zd3 (O : Oracle E1) (a0 : Yg) (a1 : Yb) (a2 : Int) (a3 : Yb) : Option Yo := O.C 133 (a0, a1, a2, a3, ())
noncomputable def zho (O : Oracle E1) (a0 : Yb) (a1 : Int) : Option Ye := O.C 196 (a0, a1, ())
noncomputable def zix (O : Oracle E1) (a0 : Yb) (a1 : Yb) : Option Yc := O.C 191 (a0, a1, ())
noncomputable def zcQ (O : Oracle E1) (a0 : Yb) (a1 : Yb) : Option Yc := O.C 177 (a0, a1, ())
noncomputable def zhG (O : Oracle E1) (a0 : Yb) (a1 : Yb) : Option Ye := O.C 163 (a0, a1, ())
noncomputable def zgr (O : Oracle E1) (a0 : Yb) (a1 : Yb) : Option Yc := O.C 134 (a0, a1, ())
noncomputable def zh3 (O : Oracle E1) (a0 : Ym) (a1 : Ym) : Option Yh := O.C 178 (a0, a1, ())
noncomputable def ze2 (O : Oracle E1) (a0 : Ym) (a1 : Ym) : Option Yc := O.C 179 (a0, a1, ())
noncomputable def zji (O : Oracle E1) (a0 : Ym) (a1 : Ym) : Option Ye := O.C 164 (a0, a1, ())
noncomputable def zh6 (O : Oracle E1) (a0 : Ya) : Option Yh := O.C 165 (a0, ())
noncomputable def zcP (O : Oracle E1) (a0 : Yf) (a1 : Int) : Option Yc := O.C 135 (a0, a1, ())
noncomputable def zc6 (O : Oracle E1) (a0 : Yg) (a1 : Yf) (a2 : Yf) (a3 : Int × Int × Int × Int × Int × Unit) : Option Yk := O.C 96 (a0, a1, a2, a3, ())
noncomputable def zd5 (O : Oracle E1) (a0 : Yg) (a1 : Yf) (a2 : Int) : Option Yk := O.C 97 (a0, a1, a2, ())
noncomputable def zeM (O : Oracle E1) (a0 : Yg) (a1 : Yf) (a2 : Int × Int × Int × Int × Int × Unit) : Option Yk := O.C 98 (a0, a1, a2, ())
noncomputable def zjW (O : Oracle E1) (a0 : Yf) : Option Yc := O.C 99 (a0, ())
noncomputable def zhw (O : Oracle E1) (a0 : Yg) (a1 : Ym) (a2 : Yb) (a3 : Yb) : Option Yi := O.C 192 (a0, a1, a2, a3, ())
noncomputable def zib (O : Oracle E1) (a0 : Yg) (a1 : Yb) (a2 : Yb) (a3 : Yb) : Option Yr := O.C 180 (a0, a1, a2, a3, ())
noncomputable def zh1 (O : Oracle E1) (a0 : Yg) (a1 : Yb) (a2 : Yf) : Option Yn := O.C 166 (a0, a1, a2, ())
noncomputable def zeP (O : Oracle E1) (a0 : Yg) (a1 : Yb) (a2 : Yf) : Option YA := O.C 137 (a0, a1, a2, ())
noncomputable def ziu (O : Oracle E1) (a0 : Yg) (a1 : Yf) (a2 : Yf) : Option Yk := O.C 100 (a0, a1, a2, ())
noncomputable def zh5 (O : Oracle E1) (a0 : Yg) (a1 : YC) (a2 : List Yd) (a3 : Int) (a4 : Yb) (a5 : Yb) : Option Yl := O.C 66 (a0, a1, a2, a3, a4, a5, ())
noncomputable def zgs (O : Oracle E1) (a0 : Yg) (a1 : YC) (a2 : List Yd) (a3 : Int) (a4 : Yb) (a5 : Yb) : Option Yx := O.C 42 (a0, a1, a2, a3, a4, a5, ())
noncomputable def ziv (O : Oracle E1) (a0 : Yg) (a1 : YC) (a2 : List Yd) (a3 : Int) (a4 : Yb) (a5 : Yb) : Option Yx := O.C 17 (a0, a1, a2, a3, a4, a5, ())
noncomputable def zhi (O : Oracle E1) (a0 : Int) : Option Yc := O.C 59 (a0, ())
noncomputable def zbv (O : Oracle E1) (a0 : Yb) (a1 : Unit) : Option Ye := O.C 3932238 (a0, a1, ())
noncomputable def zat (O : Oracle E1) (a0 : Yb) (a1 : Unit) : Option Yc := O.C 3932218 (a0, a1, ())
noncomputable def ziA (O : Oracle E1) (a0 : Yg) : Option Yc := O.C 37 (a0, ())
noncomputable def zdY (O : Oracle E1) (a0 : Yg) (a1 : Int) : Option Ye := O.C 139 (a0, a1, ())
noncomputable def zcX (O : Oracle E1) (a0 : Yg) (a1 : Yb) : Option Yc := O.C 104 (a0, a1, ())
noncomputable def zhe (O : Oracle E1) (a0 : Yg) (a1 : Ya) : Option Yc := O.C 82 (a0, a1, ())
noncomputable def zec (O : Oracle E1) (a0 : Ya) (a1 : Yg) : Option Yc := O.C 81 (a0, a1, ())
noncomputable def zas (O : Oracle E1) (a0 : Yf) (a1 : Yg × Unit) : Option Ye := O.C 5374055 (a0, a1, ())
noncomputable def zL (O : Oracle E1) (a0 : Yf) (a1 : Yg × Unit) : Option Yc := O.C 5374032 (a0, a1, ())
noncomputable def zdg (O : Oracle E1) (a0 : Yg) (a1 : Yf) : Option Yc := O.C 62 (a0, a1, ())
noncomputable def zcj (O : Oracle E1) (a0 : Yf) (a1 : Yg) : Option Yc := O.C 61 (a0, a1, ())
noncomputable def zah (O : Oracle E1) (a0 : YC) (a1 : Yg × Unit) : Option Ye := O.C 4063311 (a0, a1, ())
noncomputable def zk (O : Oracle E1) (a0 : YC) (a1 : Yg × Unit) : Option Yc := O.C 4063292 (a0, a1, ())
noncomputable def zcZ (O : Oracle E1) (a0 : Yg) (a1 : YC) : Option Yc := O.C 38 (a0, a1, ())
noncomputable def zd9 (O : Oracle E1) (a0 : Yd) (a1 : Yg) : Option Yc := O.C 69 (a0, a1, ())
noncomputable def zan (O : Oracle E1) (a0 : List Yd) (a1 : Yg × Unit) : Option Ye := O.C 4587593 (a0, a1, ())
noncomputable def zF (O : Oracle E1) (a0 : List Yd) (a1 : Yg × Unit) : Option Yc := O.C 4587588 (a0, a1, ())
noncomputable def zfG (O : Oracle E1) (a0 : Yg) (a1 : List Yd) : Option Yc := O.C 43 (a0, a1, ())
noncomputable def zi9 (O : Oracle E1) (a0 : Int) (a1 : List Yd) : Option Yc := O.C 70 (a0, a1, ())
noncomputable def zbG (O : Oracle E1) (a0 : Yb) (a1 : YE) : Option Ye := O.C 4653134 (a0, a1, ())
noncomputable def zaL (O : Oracle E1) (a0 : Yb) (a1 : YE) : Option Yc := O.C 4653114 (a0, a1, ())
noncomputable def zkx (O : Oracle E1) (a0 : List Yd) (a1 : Yb) : Option Yc := O.C 44 (a0, a1, ())
noncomputable def zZ (O : Oracle E1) (a0 : Int) (a1 : List Yd) (a2 : Yb) : Option Yj := O.C 83 (a0, a1, a2, ())
noncomputable def zb4 (O : Oracle E1) (a0 : Int) (a1 : Int) (a2 : Yb) (a3 : Yb) : Option Yc := O.C 84 (a0, a1, a2, a3, ())
noncomputable def zcg (O : Oracle E1) (a0 : Yf) : Option Yh := O.C 121 (a0, ())
noncomputable def zca (O : Oracle E1) (a0 : Yf) (a1 : Ym) : Option Yj := O.C 123 (a0, a1, ())
noncomputable def zjU (O : Oracle E1) (a0 : Ym) : Option Yh := O.C 140 (a0, ())
noncomputable def zga (O : Oracle E1) (a0 : Yf) : Option Yj := O.C 105 (a0, ())
noncomputable def zJ (O : Oracle E1) (a0 : Yb) (a1 : Yb) : Option Yc := O.C 94 (a0, a1, ())
noncomputable def zhx (O : Oracle E1) (a0 : Ya) : Option ((Ya × Unit) × (Unit)) := O.C 143 (a0, ())
noncomputable def zhM (O : Oracle E1) (a0 : Ya) (a1 : Ya) : Option Yc := O.C 142 (a0, a1, ())
noncomputable def zjV (O : Oracle E1) (a0 : Ya) (a1 : Ya) : Option Yc := O.C 141 (a0, a1, ())
noncomputable def za5 (O : Oracle E1) (a0 : Yf) (a1 : Ya × Unit) : Option Ye := O.C 9306215 (a0, a1, ())
noncomputable def zG (O : Oracle E1) (a0 : Yf) (a1 : Ya × Unit) : Option Yc := O.C 9306192 (a0, a1, ())
noncomputable def zlU (O : Oracle E1) (a0 : Yf) : Option Yj := O.C 106 (a0, ())
noncomputable def zb2 (O : Oracle E1) (a0 : Yf) : Option Yj := O.C 85 (a0, ())
noncomputable def zeR (O : Oracle E1) (a0 : Yf) (a1 : Int) : Option Yl := O.C 86 (a0, a1, ())
noncomputable def zcd (O : Oracle E1) (a0 : Yf) (a1 : Int) (a2 : Bool) : Option Yc := O.C 107 (a0, a1, a2, ())
noncomputable def ze3 (O : Oracle E1) (a0 : Int) : Option Yc := O.C 108 (a0, ())
noncomputable def zao (O : Oracle E1) (a0 : Ya) (a1 : Int) : Option ((Yb × Yb × Unit) × (Unit)) := O.C 109 (a0, a1, ())
noncomputable def zg3 (O : Oracle E1) (a0 : Yb) (a1 : Int) : Option Ye := O.C 170 (a0, a1, ())
noncomputable def zaZ (O : Oracle E1) (a0 : Yb) (a1 : Int) : Option Yc := O.C 147 (a0, a1, ())
noncomputable def ziE (O : Oracle E1) (a0 : Yb) (a1 : Int) : Option Yc := O.C 168 (a0, a1, ())
noncomputable def zbs (O : Oracle E1) (a0 : Ym) (a1 : Yq) : Option Ye := O.C 11075765 (a0, a1, ())
noncomputable def zap (O : Oracle E1) (a0 : Ym) (a1 : Yq) : Option Yc := O.C 11075751 (a0, a1, ())
noncomputable def zjM (O : Oracle E1) (a0 : Ym) : Option Yo := O.C 144 (a0, ())
noncomputable def zku (O : Oracle E1) (a0 : Yb) (a1 : Int) : Option Yo := O.C 145 (a0, a1, ())
noncomputable def zem (O : Oracle E1) (a0 : Yb) (a1 : Yg) : Option Yc := O.C 169 (a0, a1, ())
noncomputable def zaW (O : Oracle E1) (a0 : Ym) (a1 : Yg × Unit) : Option Ye := O.C 11141301 (a0, a1, ())
noncomputable def z5 (O : Oracle E1) (a0 : Ym) (a1 : Yg × Unit) : Option Yc := O.C 11141287 (a0, a1, ())
noncomputable def zdt (O : Oracle E1) (a0 : Yg) (a1 : Ym) : Option Yc := O.C 146 (a0, a1, ())
noncomputable def zhd (O : Oracle E1) (a0 : Yg) (a1 : Yf) (a2 : Yf) : Option Yl := O.C 110 (a0, a1, a2, ())
noncomputable def zcp (O : Oracle E1) (a0 : Yg) (a1 : Yb) (a2 : Int) : Option Ye := O.C 148 (a0, a1, a2, ())
noncomputable def zau (O : Oracle E1) (a0 : Yg) (a1 : Yb) (a2 : Int) : Option Yo := O.C 112 (a0, a1, a2, ())
noncomputable def zbz (O : Oracle E1) (a0 : Ym) (a1 : Yb) : Option Yr := O.C 114 (a0, a1, ())
noncomputable def zdD (O : Oracle E1) (a0 : Yg) (a1 : Yb) (a2 : Yb) : Option Yi := O.C 111 (a0, a1, a2, ())
noncomputable def zb6 (O : Oracle E1) (a0 : Ym) (a1 : Yf) : Option Yl := O.C 113 (a0, a1, ())
noncomputable def zdI (O : Oracle E1) (a0 : Ym) : Option Yo := O.C 149 (a0, ())
noncomputable def zdN (O : Oracle E1) (a0 : Yg) (a1 : Yb) (a2 : Int) (a3 : Yb) : Option Yo := O.C 115 (a0, a1, a2, a3, ())
noncomputable def za4 (O : Oracle E1) (a0 : YC) : Option Yj := O.C 116 (a0, ())
noncomputable def zaN (O : Oracle E1) (a0 : Yf) (a1 : Bool) : Option Yk := O.C 117 (a0, a1, ())
noncomputable def ziK (O : Oracle E1) (a0 : Yb) (a1 : Int) : Option Ye := O.C 193 (a0, a1, ())
noncomputable def zg7 (O : Oracle E1) (a0 : Yb) (a1 : Yb) : Option Yc := O.C 182 (a0, a1, ())
noncomputable def zcR (O : Oracle E1) (a0 : Yb) (a1 : Yb) : Option Yc := O.C 172 (a0, a1, ())
noncomputable def zgc (O : Oracle E1) (a0 : Yb) (a1 : Yb) : Option Ye := O.C 151 (a0, a1, ())
noncomputable def zc5 (O : Oracle E1) (a0 : Yb) (a1 : Yb) : Option Yc := O.C 118 (a0, a1, ())
noncomputable def zcI (O : Oracle E1) (a0 : Ym) (a1 : Int) (a2 : Int) : Option Yh := O.C 185 (a0, a1, a2, ())
noncomputable def zgW (O : Oracle E1) (a0 : Yb) (a1 : Yb) : Option Yc := O.C 194 (a0, a1, ())
noncomputable def zbf (O : Oracle E1) (a0 : Ym) (a1 : Yg) : Option Ye := O.C 12779701 (a0, a1, ())
noncomputable def zaf (O : Oracle E1) (a0 : Ym) (a1 : Yg) : Option Yc := O.C 12779687 (a0, a1, ())
noncomputable def zcL (O : Oracle E1) (a0 : Ym) (a1 : Ym) : Option Yc := O.C 186 (a0, a1, ())
noncomputable def zeO (O : Oracle E1) (a0 : Yb) (a1 : Yb) : Option Yc := O.C 184 (a0, a1, ())
noncomputable def zM (O : Oracle E1) (a0 : Ym) (a1 : Yg) : Option Ye := O.C 12124341 (a0, a1, ())
noncomputable def zf9 (O : Oracle E1) (a0 : Ym) (a1 : Ym) : Option Ye := O.C 173 (a0, a1, ())
noncomputable def zfh (O : Oracle E1) (a0 : Ya) : Option Yh := O.C 174 (a0, ())
noncomputable def zgG (O : Oracle E1) (a0 : Ya) (a1 : Ya) : Option Ye := O.C 152 (a0, a1, ())
noncomputable def zbH (O : Oracle E1) (a0 : Yf) (a1 : Int) : Option Yc := O.C 119 (a0, a1, ())
noncomputable def zbc (O : Oracle E1) (a0 : Yg) (a1 : Yf) (a2 : Yf) (a3 : Int × Int × Int × Int × Int × Unit) : Option Yk := O.C 87 (a0, a1, a2, a3, ())
noncomputable def zct (O : Oracle E1) (a0 : Yg) (a1 : Yf) (a2 : Int) : Option Yk := O.C 88 (a0, a1, a2, ())
noncomputable def zcW (O : Oracle E1) (a0 : Yg) (a1 : Yf) (a2 : Int × Int × Int × Int × Int × Unit) : Option Yk := O.C 89 (a0, a1, a2, ())
noncomputable def zjI (O : Oracle E1) (a0 : Yf) : Option Yc := O.C 90 (a0, ())
noncomputable def zff (O : Oracle E1) (a0 : Yg) (a1 : Ym) (a2 : Yb) (a3 : Yb) : Option Yi := O.C 187 (a0, a1, a2, a3, ())
noncomputable def zit (O : Oracle E1) (a0 : Yb) (a1 : Int) : Option Yc := O.C 195 (a0, a1, ())
noncomputable def zlX (O : Oracle E1) (a0 : Ym) : Option Yh := O.C 188 (a0, ())
noncomputable def zbP (O : Oracle E1) (a0 : Yg) (a1 : Yb) (a2 : Yb) (a3 : Yb) : Option Yr := O.C 175 (a0, a1, a2, a3, ())
noncomputable def zfP (O : Oracle E1) (a0 : Yg) (a1 : Yb) (a2 : Yf) : Option Yn := O.C 153 (a0, a1, a2, ())
noncomputable def zda (O : Oracle E1) (a0 : Yg) (a1 : Yb) (a2 : Yf) : Option YA := O.C 122 (a0, a1, a2, ())
noncomputable def zds (O : Oracle E1) (a0 : Yg) (a1 : Yf) (a2 : Yf) : Option Yk := O.C 91 (a0, a1, a2, ())
noncomputable def zhC (O : Oracle E1) (a0 : Yg) (a1 : YC) (a2 : List Yd) (a3 : Int) (a4 : Yb) (a5 : Yb) : Option Yl := O.C 63 (a0, a1, a2, a3, a4, a5, ())
noncomputable def zdo (O : Oracle E1) (a0 : Yg) (a1 : YC) (a2 : List Yd) (a3 : Int) (a4 : Yb) (a5 : Yb) : Option Yx := O.C 45 (a0, a1, a2, a3, a4, a5, ())
noncomputable def zgE (O : Oracle E1) (a0 : Yg) (a1 : YC) (a2 : List Yd) (a3 : Int) (a4 : Yb) (a5 : Yb) : Option Yx := O.C 19 (a0, a1, a2, a3, a4, a5, ())
noncomputable def za8 (O : Oracle E1) (a0 : Yb) (a1 : Int) : Option (Yq × Yg) := O.C 25 (a0, a1, ())
noncomputable def ziD (O : Oracle E1) (a0 : Yg) (a1 : Int) : Option (Yq × (Yg × Unit)) := O.C 22 (a0, a1, ())
noncomputable def zeX (O : Oracle E1) (a0 : Yf) (a1 : Int) : Option (Yq × (Yf × Unit)) := O.C 46 (a0, a1, ())
noncomputable def zhF (O : Oracle E1) (a0 : YC) (a1 : Int) : Option (Yq × (YC × Unit)) := O.C 23 (a0, a1, ())
noncomputable def zhR (O : Oracle E1) (a0 : List Yd) (a1 : Int) : Option (Yq × YE) := O.C 24 (a0, a1, ())
noncomputable def ziC (O : Oracle E1) (a0 : Yd) (a1 : Int) : Option (Yq × (Yd × Unit)) := O.C 26 (a0, a1, ())
noncomputable def zdy (O : Oracle E1) (a0 : Yb) (a1 : Int) : Option Ye := O.C 47 (a0, a1, ())
noncomputable def ziw (O : Oracle E1) (a0 : Yf) (a1 : Int) : Option Ye := O.C 48 (a0, a1, ())
noncomputable def zgC (O : Oracle E1) (a0 : Yd) (a1 : Int) : Option Ye := O.C 27 (a0, a1, ())
noncomputable def zed (O : Oracle E1) (a0 : Yg) (a1 : YC) (a2 : List Yd) (a3 : Int) (a4 : Yb) (a5 : Yb) : Option Yc := O.C 4 (a0, a1, a2, a3, a4, a5, ())
noncomputable abbrev zqK : LoopH := { key := 244, ht := [0, 1, 5], hτ := (fs [yh, yb, yb]), ex := 0, ot := [1], oτ := (fs [yb]) }
noncomputable def zqG : Code := Code.part (bodyOf 31) [1, 1, 1, 0, 1, 0, 0]
noncomputable def zfm (O : Oracle E1) (a0 : Yf) (a1 : Int) (a2 : Int) : Option YF := O.L 31 zqK zqG (a0, a1, a2, ())
noncomputable abbrev zp5 : LoopH := { key := 244, ht := [0, 1, 5], hτ := (fs [yp, yb, yb]), ex := 0, ot := [1], oτ := (fs [yb]) }
noncomputable def zpT : Code := Code.part (bodyOf 7) [1, 1, 1, 0, 1, 0, 0]
noncomputable def zeo (O : Oracle E1) (a0 : YC) (a1 : Int) (a2 : Int) : Option YF := O.L 7 zp5 zpT (a0, a1, a2, ())
noncomputable abbrev zqb : LoopH := { key := 244, ht := [0, 1, 5], hτ := (fs [yf, yb, yb]), ex := 0, ot := [1], oτ := (fs [yb]) }
noncomputable def zp3 : Code := Code.part (bodyOf 8) [1, 1, 1, 0, 1, 0, 0]
noncomputable def zet (O : Oracle E1) (a0 : List Yd) (a1 : Int) (a2 : Int) : Option YF := O.L 8 zqb zp3 (a0, a1, a2, ())
noncomputable abbrev zrB : LoopH := { key := 116, ht := [0, 3, 4], hτ := (fs [ya, yg, yb]), ex := 0, ot := [3], oτ := (fs [yg]) }
noncomputable def zrS : Code := Code.part (bodyOf 18) [1, 1, 0, 1, 0, 0]
noncomputable def zfQ (O : Oracle E1) (a0 : Yb) (a1 : Yb) (a2 : Int) : Option YH := O.L 18 zrB zrS (a0, a1, a2, ())
noncomputable abbrev zrU : LoopH := { key := 116, ht := [0, 3, 4], hτ := (fs [yh, ye, yb]), ex := 0, ot := [3], oτ := (fs [ye]) }
noncomputable def zrZ : Code := Code.part (bodyOf 35) [1, 1, 0, 1, 0, 0]
noncomputable def zf2 (O : Oracle E1) (a0 : Yf) (a1 : Yf) (a2 : Int) : Option Yw := O.L 35 zrU zrZ (a0, a1, a2, ())
noncomputable abbrev zqW : LoopH := { key := 116, ht := [0, 3, 4], hτ := (fs [yp, (.own ye), yb]), ex := 0, ot := [3], oτ := (fs [(.own ye)]) }
noncomputable def zqF : Code := Code.part (bodyOf 11) [1, 1, 0, 1, 0, 0]
noncomputable def zfi (O : Oracle E1) (a0 : YC) (a1 : YC) (a2 : Int) : Option ((YC × Unit) ⊕ ((YC × Unit) × (Unit))) := O.L 11 zqW zqF (a0, a1, a2, ())
noncomputable abbrev zqT : LoopH := { key := 116, ht := [0, 3, 4], hτ := (fs [yf, (.own yo), yb]), ex := 0, ot := [3], oτ := (fs [(.own yo)]) }
noncomputable def zqO : Code := Code.part (bodyOf 12) [1, 1, 0, 1, 0, 0]
noncomputable def zfk (O : Oracle E1) (a0 : List Yd) (a1 : List Yd) (a2 : Int) : Option (YE ⊕ (YE × (Unit))) := O.L 12 zqT zqO (a0, a1, a2, ())
noncomputable abbrev zrH : LoopH := { key := 116, ht := [0, 1, 5], hτ := (fs [ya, ya, yb]), ex := 0, ot := [], oτ := (fs []) }
noncomputable def zrK : Code := Code.part (bodyOf 21) [1, 1, 0, 1, 0, 0]
noncomputable def zfR (O : Oracle E1) (a0 : Yb) (a1 : Yb) (a2 : Int) : Option Ys := O.L 21 zrH zrK (a0, a1, a2, ())
noncomputable abbrev zrQ : LoopH := { key := 116, ht := [0, 1, 5], hτ := (fs [yh, yh, yb]), ex := 0, ot := [], oτ := (fs []) }
noncomputable def zrI : Code := Code.part (bodyOf 40) [1, 1, 0, 1, 0, 0]
noncomputable def zfX (O : Oracle E1) (a0 : Yf) (a1 : Yf) (a2 : Int) : Option Ys := O.L 40 zrQ zrI (a0, a1, a2, ())
noncomputable abbrev zrk : LoopH := { key := 116, ht := [0, 1, 5], hτ := (fs [yp, yp, yb]), ex := 0, ot := [], oτ := (fs []) }
noncomputable def zqz : Code := Code.part (bodyOf 15) [1, 1, 0, 1, 0, 0]
noncomputable def zfp (O : Oracle E1) (a0 : YC) (a1 : YC) (a2 : Int) : Option Ys := O.L 15 zrk zqz (a0, a1, a2, ())
noncomputable abbrev zq5 : LoopH := { key := 116, ht := [0, 1, 5], hτ := (fs [yf, yf, yb]), ex := 0, ot := [], oτ := (fs []) }
noncomputable def zrj : Code := Code.part (bodyOf 16) [1, 1, 0, 1, 0, 0]
noncomputable def ze8 (O : Oracle E1) (a0 : List Yd) (a1 : List Yd) (a2 : Int) : Option Ys := O.L 16 zq5 zrj (a0, a1, a2, ())
noncomputable abbrev zsB : LoopH := { key := 56, ht := [1, 2, 3, 7], hτ := (fs [ya, yb, yj, yb]), ex := 0, ot := [2], oτ := (fs [yb]) }
noncomputable def zsL : Code := Code.part (bodyOf 138) [1, 1, 0, 0, 0]
noncomputable def zdi (O : Oracle E1) (a0 : Yb) (a1 : Int) (a2 : Yg) (a3 : Int) : Option YF := O.L 138 zsB zsL (a0, a1, a2, a3, ())
noncomputable abbrev zqa : LoopH := { key := 52, ht := [1, 2, 7, 8, 9], hτ := (fs [yh, yj, yh, yb, yb]), ex := 0, ot := [1], oτ := (fs [yh]) }
noncomputable def zqk : Code := Code.part (bodyOf 54) [1, 0, 1, 0, 0]
noncomputable def za3 (O : Oracle E1) (a0 : Yf) (a1 : Yg) (a2 : Yf) (a3 : Int) (a4 : Int) : Option ((Yf × Unit) ⊕ Yc) := O.L 54 zqa zqk (a0, a1, a2, a3, a4, ())
noncomputable abbrev zsJ : LoopH := { key := 52, ht := [1, 2, 9, 10, 11], hτ := (fs [yb, yb, ya, yb, yb]), ex := 0, ot := [], oτ := (fs []) }
noncomputable def zsy : Code := Code.part (bodyOf 72) [1, 0, 1, 0, 0]
noncomputable def zgS (O : Oracle E1) (a0 : Int) (a1 : Int) (a2 : Yb) (a3 : Int) (a4 : Int) : Option Ys := O.L 72 zsJ zsy (a0, a1, a2, a3, a4, ())
noncomputable abbrev zpX : LoopH := { key := 52, ht := [1, 2, 7, 8, 9], hτ := (fs [yp, yj, yp, yb, yb]), ex := 0, ot := [1, 2], oτ := (fs [yp, yj]) }
noncomputable def zqc : Code := Code.part (bodyOf 33) [1, 0, 1, 0, 0]
noncomputable def zaI (O : Oracle E1) (a0 : YC) (a1 : Yg) (a2 : YC) (a3 : Int) (a4 : Int) : Option ((YC × Yg × Unit) ⊕ Yc) := O.L 33 zpX zqc (a0, a1, a2, a3, a4, ())
noncomputable abbrev zq0 : LoopH := { key := 52, ht := [1, 2, 7, 8, 9], hτ := (fs [yf, yj, yf, yb, yb]), ex := 0, ot := [1, 2], oτ := (fs [yf, yj]) }
noncomputable def zqN : Code := Code.part (bodyOf 41) [1, 0, 1, 0, 0]
noncomputable def zfe (O : Oracle E1) (a0 : List Yd) (a1 : Yg) (a2 : List Yd) (a3 : Int) (a4 : Int) : Option (((List Yd) × Yg × Unit) ⊕ Yc) := O.L 41 zq0 zqN (a0, a1, a2, a3, a4, ())
noncomputable abbrev zsr : LoopH := { key := 52, ht := [1, 7, 8, 9], hτ := (fs [yb, ya, yb, yb]), ex := 0, ot := [], oτ := (fs []) }
noncomputable def zsz : Code := Code.part (bodyOf 161) [1, 0, 1, 0, 0]
noncomputable def zeN (O : Oracle E1) (a0 : Int) (a1 : Yb) (a2 : Int) (a3 : Int) : Option Ys := O.L 161 zsr zsz (a0, a1, a2, a3, ())
noncomputable abbrev zpu : LoopH := { key := 244, ht := [3, 4, 12, 13, 14], hτ := (fs [yg, yi, yk, yb, yb]), ex := 0, ot := [4], oτ := (fs [yi]) }
noncomputable def zpF : Code := Code.part (bodyOf 154) [1, 1, 1, 0, 1, 0, 0]
noncomputable def zdT (O : Oracle E1) (a0 : Yb) (a1 : Ym) (a2 : Ym) (a3 : Int) (a4 : Int) : Option Yz := O.L 154 zpu zpF (a0, a1, a2, a3, a4, ())
noncomputable abbrev zn3 : LoopH := { key := 250676, ht := [3, 4, 7, 12, 13, 14, 18, 19, 20], hτ := (fs [yg, yi, yg, yk, yb, yb, ya, yb, yb]), ex := 2, ot := [3, 4, 7, 12, 13, 14], oτ := (fs [yg, yi, yg, yk, yb, yb]) }
noncomputable def zn7 : Code := Code.part (bodyOf 154) [1, 1, 1, 0, 1, 0, 0, 1, 1, 0, 0, 1, 1, 0, 1, 0, 0]
noncomputable def zbL (O : Oracle E1) (a0 : Yb) (a1 : Ym) (a2 : Yb) (a3 : Ym) (a4 : Int) (a5 : Int) (a6 : Yb) (a7 : Int) (a8 : Int) : Option ((Yb × Ym × Yb × Ym × Int × Int × Unit) ⊕ Yh) := O.L 154 zn3 zn7 (a0, a1, a2, a3, a4, a5, a6, a7, a8, ())
noncomputable abbrev zmp : LoopH := { key := 256693044, ht := [3, 4, 7, 9, 12, 13, 14, 18, 19, 20, 37, 38], hτ := (fs [yg, yi, yg, yb, yk, yb, yb, ya, yb, yb, yb, yb]), ex := 4, ot := [3, 4, 7, 9, 12, 13, 14, 18, 19, 20], oτ := (fs [yg, yi, yg, yb, yk, yb, yb, ya, yb, yb]), hal := [(36, 3)] }
noncomputable def zmy : Code := Code.part (bodyOf 154) [1, 1, 1, 0, 1, 0, 0, 1, 1, 0, 0, 1, 1, 0, 1, 0, 0, 1, 1, 0, 0, 1, 1, 0, 1, 0, 0]
noncomputable def za0 (O : Oracle E1) (a0 : Yb) (a1 : Ym) (a2 : Yb) (a3 : Int) (a4 : Ym) (a5 : Int) (a6 : Int) (a7 : Yb) (a8 : Int) (a9 : Int) (a10 : Int) (a11 : Int) : Option (YG ⊕ Yh) := O.L 154 zmp zmy (a0, a1, a2, a3, a4, a5, a6, a7, a8, a9, a10, a11, ())
noncomputable abbrev zrg : LoopH := { key := 116, ht := [3, 6, 7, 8], hτ := (fs [yi, yh, yb, yb]), ex := 0, ot := [3], oτ := (fs [yi]) }
noncomputable def zqS : Code := Code.part (bodyOf 155) [1, 1, 0, 1, 0, 0]
noncomputable def zfc (O : Oracle E1) (a0 : Ym) (a1 : Yf) (a2 : Int) (a3 : Int) : Option Yz := O.L 155 zrg zqS (a0, a1, a2, a3, ())
noncomputable abbrev zpD : LoopH := { key := 244, ht := [3, 4, 10, 11, 12], hτ := (fs [yi, ym, yh, yb, yb]), ex := 0, ot := [4], oτ := (fs [ym]) }
noncomputable def zpd : Code := Code.part (bodyOf 124) [1, 1, 1, 0, 1, 0, 0]
noncomputable def zdW (O : Oracle E1) (a0 : Ym) (a1 : Yf) (a2 : Yf) (a3 : Int) (a4 : Int) : Option Yw := O.L 124 zpD zpd (a0, a1, a2, a3, a4, ())
noncomputable abbrev zrY : LoopH := { key := 116, ht := [0, 1, 12, 13], hτ := (fs [ya, ya, yb, yb]), ex := 0, ot := [], oτ := (fs []) }
noncomputable def zrG : Code := Code.part (bodyOf 102) [1, 1, 0, 1, 0, 0]
noncomputable def zfT (O : Oracle E1) (a0 : Yb) (a1 : Yb) (a2 : Int) (a3 : Int) : Option Ys := O.L 102 zrY zrG (a0, a1, a2, a3, ())
noncomputable abbrev zsu : LoopH := { key := 116, ht := [3, 6, 7, 8], hτ := (fs [ym, yh, yb, yb]), ex := 0, ot := [3], oτ := (fs [ym]) }
noncomputable def zsw : Code := Code.part (bodyOf 136) [1, 1, 0, 1, 0, 0]
noncomputable def zgH (O : Oracle E1) (a0 : Yf) (a1 : Yf) (a2 : Int) (a3 : Int) : Option Yw := O.L 136 zsu zsw (a0, a1, a2, a3, ())
noncomputable abbrev zrC : LoopH := { key := 116, ht := [3, 9, 10, 11], hτ := (fs [ym, yh, yb, yb]), ex := 0, ot := [3], oτ := (fs [ym]) }
noncomputable def zrW : Code := Code.part (bodyOf 125) [1, 1, 0, 1, 0, 0]
noncomputable def zcM (O : Oracle E1) (a0 : Yf) (a1 : Yf) (a2 : Int) (a3 : Int) : Option Yw := O.L 125 zrC zrW (a0, a1, a2, a3, ())
noncomputable abbrev zoK : LoopH := { key := 239220, ht := [3, 5, 6, 9, 10, 11, 26, 27], hτ := (fs [ym, (.box yc), .bool, yh, yb, yb, yb, yb]), ex := 2, ot := [3, 5, 6, 9, 10, 11], oτ := (fs [ym, (.box yc), .bool, yh, yb, yb]), hal := [(25, 3)] }
noncomputable def zoY : Code := Code.part (bodyOf 125) [1, 1, 0, 1, 0, 0, 1, 1, 0, 0, 1, 1, 1, 0, 1, 0, 0]
noncomputable def zbm (O : Oracle E1) (a0 : Yf) (a1 : Ya) (a2 : Bool) (a3 : Yf) (a4 : Int) (a5 : Int) (a6 : Int) (a7 : Int) : Option ((Yf × Ya × Bool × Yf × Int × Int × Unit) ⊕ Yj) := O.L 125 zoK zoY (a0, a1, a2, a3, a4, a5, a6, a7, ())
noncomputable abbrev zsP : LoopH := { key := 56, ht := [0, 1, 5], hτ := (fs [yg, yb, yb]), ex := 0, ot := [0, 1, 5], oτ := (fs [yg, yb, yb]) }
noncomputable def zsx : Code := Code.part (bodyOf 190) [1, 1, 0, 0, 0]
noncomputable def zgJ (O : Oracle E1) (a0 : Yb) (a1 : Int) (a2 : Int) : Option ((Yb × Int × Int × Unit) ⊕ Yo) := O.L 190 zsP zsx (a0, a1, a2, ())
noncomputable abbrev zrM : LoopH := { key := 116, ht := [3, 6, 7, 8], hτ := (fs [yg, ya, yb, yb]), ex := 0, ot := [3], oτ := (fs [yg]) }
noncomputable def zrD : Code := Code.part (bodyOf 189) [1, 1, 0, 1, 0, 0]
noncomputable def zfS (O : Oracle E1) (a0 : Yb) (a1 : Yb) (a2 : Int) (a3 : Int) : Option YH := O.L 189 zrM zrD (a0, a1, a2, a3, ())
noncomputable abbrev zr1 : LoopH := { key := 116, ht := [3, 8, 9, 10], hτ := (fs [yg, yh, yb, yb]), ex := 0, ot := [3], oτ := (fs [yg]) }
noncomputable def zrR : Code := Code.part (bodyOf 176) [1, 1, 0, 1, 0, 0]
noncomputable def zfL (O : Oracle E1) (a0 : Yb) (a1 : Yf) (a2 : Int) (a3 : Int) : Option YH := O.L 176 zr1 zrR (a0, a1, a2, a3, ())
noncomputable abbrev zpf : LoopH := { key := 29900, ht := [3, 8, 9, 10, 20, 21, 22], hτ := (fs [yg, yh, yb, yb, yg, yb, yb]), ex := 2, ot := [3, 8, 9, 10], oτ := (fs [yg, yh, yb, yb]) }
noncomputable def zps : Code := Code.part (bodyOf 176) [1, 1, 0, 1, 0, 0, 1, 1, 0, 0, 1, 1, 0, 0]
noncomputable def zcw (O : Oracle E1) (a0 : Yb) (a1 : Yf) (a2 : Int) (a3 : Int) (a4 : Yb) (a5 : Int) (a6 : Int) : Option ((Yb × Yf × Int × Int × Unit) ⊕ Yo) := O.L 176 zpf zps (a0, a1, a2, a3, a4, a5, a6, ())
noncomputable abbrev zqC : LoopH := { key := 116, ht := [1, 5, 11, 12], hτ := (fs [yb, yg, yb, yb]), ex := 0, ot := [5], oτ := (fs [yg]), hal := [(10, 5)] }
noncomputable def zq1 : Code := Code.part (bodyOf 158) [1, 1, 0, 1, 0, 0]
noncomputable def zfg (O : Oracle E1) (a0 : Int) (a1 : Yb) (a2 : Int) (a3 : Int) : Option YH := O.L 158 zqC zq1 (a0, a1, a2, a3, ())
noncomputable abbrev zpV : LoopH := { key := 244, ht := [3, 8, 9, 14, 15, 16], hτ := (fs [yj, yb, ym, yh, yb, yb]), ex := 0, ot := [3, 9], oτ := (fs [yj, ym]) }
noncomputable def zqe : Code := Code.part (bodyOf 128) [1, 1, 1, 0, 1, 0, 0]
noncomputable def zeu (O : Oracle E1) (a0 : Yg) (a1 : Int) (a2 : Yf) (a3 : Yf) (a4 : Int) (a5 : Int) : Option ((Yg × Yf × Unit) ⊕ Yl) := O.L 128 zpV zqe (a0, a1, a2, a3, a4, a5, ())
noncomputable abbrev zqt : LoopH := { key := 116, ht := [0, 5, 8, 9, 10], hτ := (fs [yk, yg, ya, yb, yb]), ex := 0, ot := [5], oτ := (fs [yg]) }
noncomputable def zrp : Code := Code.part (bodyOf 132) [1, 1, 0, 1, 0, 0]
noncomputable def zdA (O : Oracle E1) (a0 : Ym) (a1 : Yb) (a2 : Yb) (a3 : Int) (a4 : Int) : Option YH := O.L 132 zqt zrp (a0, a1, a2, a3, a4, ())
noncomputable abbrev zqJ : LoopH := { key := 52, ht := [2, 3, 4, 11, 12, 13], hτ := (fs [ya, ya, yj, yk, yb, yb]), ex := 0, ot := [2, 3, 4], oτ := (fs [ya, ya, yj]) }
noncomputable def zqY : Code := Code.part (bodyOf 160) [1, 0, 1, 0, 0]
noncomputable def zdC (O : Oracle E1) (a0 : Yb) (a1 : Yb) (a2 : Yg) (a3 : Ym) (a4 : Int) (a5 : Int) : Option ((Yb × Yb × Yg × Unit) ⊕ Yc) := O.L 160 zqJ zqY (a0, a1, a2, a3, a4, a5, ())
noncomputable abbrev zqX : LoopH := { key := 500, ht := [0, 1, 2, 7, 8, 17, 18], hτ := (fs [yk, yb, ya, yi, yi, yb, yb]), ex := 0, ot := [1, 2, 8], oτ := (fs [yb, ya, yi]) }
noncomputable def zrb : Code := Code.part (bodyOf 162) [1, 1, 1, 1, 0, 1, 0, 0]
noncomputable def zfa (O : Oracle E1) (a0 : Ym) (a1 : Int) (a2 : Yb) (a3 : Ym) (a4 : Ym) (a5 : Int) (a6 : Int) : Option ((Int × Yb × Ym × Unit) ⊕ Yh) := O.L 162 zqX zrb (a0, a1, a2, a3, a4, a5, a6, ())
noncomputable abbrev zre : LoopH := { key := 60, ht := [1, 2, 3, 8, 9, 10], hτ := (fs [ya, ya, yj, yi, yg, yg]), ex := 999, ot := [], oτ := (fs []) }
noncomputable def zqA : Code := Code.part (bodyOf 129) [1, 1, 1, 0, 0]
noncomputable def zax (O : Oracle E1) (a0 : Yb) (a1 : Yb) (a2 : Yg) (a3 : Ym) (a4 : Yb) (a5 : Yb) : Option ((Unit) ⊕ Yi) := O.L 129 zre zqA (a0, a1, a2, a3, a4, a5, ())
noncomputable abbrev zpL : LoopH := { key := 3864, ht := [1, 2, 3, 8, 9, 10, 11], hτ := (fs [ya, ya, yj, yi, yg, yg, yb]), ex := 2, ot := [1, 2, 3, 8, 9, 10, 11], oτ := (fs [ya, ya, yj, yi, yg, yg, yb]) }
noncomputable def zpn : Code := Code.part (bodyOf 129) [1, 1, 1, 0, 0, 0, 1, 1, 0, 0, 0]
noncomputable def zdX (O : Oracle E1) (a0 : Yb) (a1 : Yb) (a2 : Yg) (a3 : Ym) (a4 : Yb) (a5 : Yb) (a6 : Int) : Option ((Yb × Yb × Yg × Ym × Yb × Yb × Int × Unit) ⊕ Yi) := O.L 129 zpL zpn (a0, a1, a2, a3, a4, a5, a6, ())
noncomputable abbrev zrd : LoopH := { key := 116, ht := [0, 5, 8, 9, 10], hτ := (fs [yk, ym, yh, yb, yb]), ex := 0, ot := [5], oτ := (fs [ym]) }
noncomputable def zqU : Code := Code.part (bodyOf 131) [1, 1, 0, 1, 0, 0]
noncomputable def zfj (O : Oracle E1) (a0 : Ym) (a1 : Yf) (a2 : Yf) (a3 : Int) (a4 : Int) : Option Yw := O.L 131 zrd zqU (a0, a1, a2, a3, a4, ())
noncomputable abbrev zrf : LoopH := { key := 116, ht := [1, 5, 8, 9, 10], hτ := (fs [yb, yb, ya, yb, yb]), ex := 0, ot := [5], oτ := (fs [yb]) }
noncomputable def zrn : Code := Code.part (bodyOf 196) [1, 1, 0, 1, 0, 0]
noncomputable def zfb (O : Oracle E1) (a0 : Int) (a1 : Int) (a2 : Yb) (a3 : Int) (a4 : Int) : Option YF := O.L 196 zrf zrn (a0, a1, a2, a3, a4, ())
noncomputable abbrev zpY : LoopH := { key := 52, ht := [0, 1, 8, 9, 10], hτ := (fs [ya, ya, yg, yb, yb]), ex := 0, ot := [], oτ := (fs []) }
noncomputable def zp0 : Code := Code.part (bodyOf 191) [1, 0, 1, 0, 0]
noncomputable def zew (O : Oracle E1) (a0 : Yb) (a1 : Yb) (a2 : Yb) (a3 : Int) (a4 : Int) : Option Ys := O.L 191 zpY zp0 (a0, a1, a2, a3, a4, ())
noncomputable abbrev zo0 : LoopH := { key := 244, ht := [0, 1, 23, 24], hτ := (fs [ya, ya, yb, yb]), ex := 0, ot := [], oτ := (fs []) }
noncomputable def zoZ : Code := Code.part (bodyOf 177) [1, 1, 1, 0, 1, 0, 0]
noncomputable def zdx (O : Oracle E1) (a0 : Yb) (a1 : Yb) (a2 : Int) (a3 : Int) : Option Ys := O.L 177 zo0 zoZ (a0, a1, a2, a3, ())
noncomputable abbrev zrh : LoopH := { key := 244, ht := [5, 6, 16, 17, 18], hτ := (fs [yi, yi, yk, yb, yb]), ex := 0, ot := [6], oτ := (fs [yi]) }
noncomputable def zqw : Code := Code.part (bodyOf 178) [1, 1, 1, 0, 1, 0, 0]
noncomputable def zfq (O : Oracle E1) (a0 : Ym) (a1 : Ym) (a2 : Ym) (a3 : Int) (a4 : Int) : Option Yz := O.L 178 zrh zqw (a0, a1, a2, a3, a4, ())
noncomputable abbrev zoW : LoopH := { key := 250676, ht := [5, 6, 8, 9, 16, 17, 18, 23, 24], hτ := (fs [yi, yi, ya, yb, yk, yb, yb, yb, yb]), ex := 2, ot := [5, 6, 8, 9, 16, 17, 18], oτ := (fs [yi, yi, ya, yb, yk, yb, yb]), hal := [(22, 5)] }
noncomputable def zoO : Code := Code.part (bodyOf 178) [1, 1, 1, 0, 1, 0, 0, 1, 1, 0, 0, 1, 1, 0, 1, 0, 0]
noncomputable def zdk (O : Oracle E1) (a0 : Ym) (a1 : Ym) (a2 : Yb) (a3 : Int) (a4 : Ym) (a5 : Int) (a6 : Int) (a7 : Int) (a8 : Int) : Option (YL ⊕ Yh) := O.L 178 zoW zoO (a0, a1, a2, a3, a4, a5, a6, a7, a8, ())
noncomputable abbrev zrN : LoopH := { key := 52, ht := [0, 10, 11, 12], hτ := (fs [yk, yk, yb, yb]), ex := 0, ot := [0], oτ := (fs [yk]) }
noncomputable def zrJ : Code := Code.part (bodyOf 179) [1, 0, 1, 0, 0]
noncomputable def zfV (O : Oracle E1) (a0 : Ym) (a1 : Ym) (a2 : Int) (a3 : Int) : Option ((Ym × Unit) ⊕ Yc) := O.L 179 zrN zrJ (a0, a1, a2, a3, ())
noncomputable abbrev zph : LoopH := { key := 54068, ht := [0, 6, 7, 10, 11, 12, 16, 17, 18], hτ := (fs [yk, ya, .bool, yk, yb, yb, yk, yb, yb]), ex := 2, ot := [0, 7, 10, 11, 12], oτ := (fs [yk, .bool, yk, yb, yb]) }
noncomputable def zo8 : Code := Code.part (bodyOf 179) [1, 0, 1, 0, 0, 1, 1, 0, 0, 1, 1, 0, 1, 0, 0]
noncomputable def zcy (O : Oracle E1) (a0 : Ym) (a1 : Yb) (a2 : Bool) (a3 : Ym) (a4 : Int) (a5 : Int) (a6 : Ym) (a7 : Int) (a8 : Int) : Option ((Ym × Bool × Ym × Int × Int × Unit) ⊕ Yc) := O.L 179 zph zo8 (a0, a1, a2, a3, a4, a5, a6, a7, a8, ())
noncomputable abbrev zo5 : LoopH := { key := 52, ht := [0, 1, 7, 8, 9], hτ := (fs [yh, yb, yh, yb, yb]), ex := 0, ot := [], oτ := (fs []) }
noncomputable def zpO : Code := Code.part (bodyOf 135) [1, 0, 1, 0, 0]
noncomputable def zcs (O : Oracle E1) (a0 : Yf) (a1 : Int) (a2 : Yf) (a3 : Int) (a4 : Int) : Option Ys := O.L 135 zo5 zpO (a0, a1, a2, a3, a4, ())
noncomputable abbrev zok : LoopH := { key := 262132, ht := [4, 7, 10, 14, 15, 16, 17, 18, 19, 20, 128, 129], hτ := yr, ex := 0, ot := [4, 7, 10, 14, 15, 16, 17, 18, 19, 20], oτ := yt, hal := [(127, 18)] }
noncomputable def zop : Code := Code.part (bodyOf 96) [1, 1, 1, 1, 1, 1, 1, 1, 1, 1, 1, 1, 1, 0, 1, 0, 0]
noncomputable def zc9 (O : Oracle E1) (a0 : Yg) (a1 : Int × Int × Int × Int × Int × Unit) (a2 : Yb) (a3 : Yb) (a4 : Yb) (a5 : Yb) (a6 : Ym) (a7 : Yf) (a8 : Yf) (a9 : Yf) (a10 : Int) (a11 : Int) : Option (Yp ⊕ Yk) := O.L 96 zok zop (a0, a1, a2, a3, a4, a5, a6, a7, a8, a9, a10, a11, ())
noncomputable abbrev zow : LoopH := { key := 524276, ht := [4, 7, 10, 14, 15, 16, 17, 18, 19, 20, 144, 145], hτ := yr, ex := 2, ot := [4, 7, 10, 14, 15, 16, 17, 18, 19, 20], oτ := yt, hal := [(143, 19)] }
noncomputable def zou : Code := Code.part (bodyOf 96) [1, 1, 1, 1, 1, 1, 1, 1, 1, 1, 1, 1, 1, 1, 0, 1, 0, 0]
noncomputable def zc8 (O : Oracle E1) (a0 : Yg) (a1 : Int × Int × Int × Int × Int × Unit) (a2 : Yb) (a3 : Yb) (a4 : Yb) (a5 : Yb) (a6 : Ym) (a7 : Yf) (a8 : Yf) (a9 : Yf) (a10 : Int) (a11 : Int) : Option (Yp ⊕ Yk) := O.L 96 zow zou (a0, a1, a2, a3, a4, a5, a6, a7, a8, a9, a10, a11, ())
noncomputable abbrev zqq : LoopH := { key := 56, ht := [1, 2, 3, 4, 10, 11], hτ := (fs [yi, ya, ya, yj, yb, yb]), ex := 0, ot := [1], oτ := (fs [yi]) }
noncomputable def zrl : Code := Code.part (bodyOf 192) [1, 1, 0, 0, 0]
noncomputable def zaU (O : Oracle E1) (a0 : Ym) (a1 : Yb) (a2 : Yb) (a3 : Yg) (a4 : Int) (a5 : Int) : Option ((Ym × Unit) ⊕ Yi) := O.L 192 zqq zrl (a0, a1, a2, a3, a4, a5, ())
noncomputable abbrev zso : LoopH := { key := 500, ht := [1, 12, 29, 30, 31], hτ := (fs [ya, yg, yg, yb, yb]), ex := 0, ot := [1, 12], oτ := (fs [ya, yg]) }
noncomputable def zsO : Code := Code.part (bodyOf 180) [1, 1, 1, 1, 0, 1, 0, 0]
noncomputable def zgD (O : Oracle E1) (a0 : Yb) (a1 : Yb) (a2 : Yb) (a3 : Int) (a4 : Int) : Option ((Yb × Yb × Unit) ⊕ Yr) := O.L 180 zso zsO (a0, a1, a2, a3, a4, ())
noncomputable abbrev zr0 : LoopH := { key := 52, ht := [1, 2, 3, 10], hτ := (fs [ya, yh, yj, yb]), ex := 0, ot := [], oτ := (fs []) }
noncomputable def zrT : Code := Code.part (bodyOf 166) [1, 0, 1, 0, 0]
noncomputable def zcN (O : Oracle E1) (a0 : Yb) (a1 : Yf) (a2 : Yg) (a3 : Int) : Option ((Unit) ⊕ Yn) := O.L 166 zr0 zrT (a0, a1, a2, a3, ())
noncomputable abbrev zqh : LoopH := { key := 6732, ht := [1, 2, 3, 10, 11, 30, 31, 32], hτ := (fs [ya, yh, yj, yb, yg, yh, yb, yb]), ex := 2, ot := [1, 2, 3, 10], oτ := (fs [ya, yh, yj, yb]) }
noncomputable def zpU : Code := Code.part (bodyOf 166) [1, 0, 1, 0, 0, 1, 0, 0, 1, 1, 0, 0]
noncomputable def zb7 (O : Oracle E1) (a0 : Yb) (a1 : Yf) (a2 : Yg) (a3 : Int) (a4 : Yb) (a5 : Yf) (a6 : Int) (a7 : Int) : Option YJ := O.L 166 zqh zpU (a0, a1, a2, a3, a4, a5, a6, a7, ())
noncomputable abbrev zoI : LoopH := { key := 1723596, ht := [1, 2, 3, 10, 11, 12, 13, 14, 30, 31, 32], hτ := (fs [ya, yh, yj, yb, yg, yb, (.box yc), yb, yh, yb, yb]), ex := 4, ot := [1, 2, 3, 10, 11, 30, 31, 32], oτ := (fs [ya, yh, yj, yb, yg, yh, yb, yb]) }
noncomputable def zoX : Code := Code.part (bodyOf 166) [1, 0, 1, 0, 0, 1, 0, 0, 1, 1, 0, 0, 1, 1, 0, 0, 1, 1, 0, 0]
noncomputable def zbF (O : Oracle E1) (a0 : Yb) (a1 : Yf) (a2 : Yg) (a3 : Int) (a4 : Yb) (a5 : Int) (a6 : Ya) (a7 : Int) (a8 : Yf) (a9 : Int) (a10 : Int) : Option YB := O.L 166 zoI zoX (a0, a1, a2, a3, a4, a5, a6, a7, a8, a9, a10, ())
noncomputable abbrev zp7 : LoopH := { key := 60, ht := [2, 3, 8, 9], hτ := (fs [yh, yj, yg, yb]), ex := 999, ot := [], oτ := (fs []) }
noncomputable def zqd : Code := Code.part (bodyOf 137) [1, 1, 1, 0, 0]
noncomputable def zeB (O : Oracle E1) (a0 : Yf) (a1 : Yg) (a2 : Yb) (a3 : Int) : Option ((Unit) ⊕ YA) := O.L 137 zp7 zqd (a0, a1, a2, a3, ())
noncomputable abbrev zpE : LoopH := { key := 244, ht := [2, 3, 8, 9, 16, 17, 18], hτ := (fs [yh, yj, ym, yb, yh, yb, yb]), ex := 0, ot := [8, 9], oτ := (fs [ym, yb]) }
noncomputable def zpi : Code := Code.part (bodyOf 100) [1, 1, 1, 0, 1, 0, 0]
noncomputable def zdM (O : Oracle E1) (a0 : Yf) (a1 : Yg) (a2 : Yf) (a3 : Int) (a4 : Yf) (a5 : Int) (a6 : Int) : Option ((Yf × Int × Unit) ⊕ Yk) := O.L 100 zpE zpi (a0, a1, a2, a3, a4, a5, a6, ())
noncomputable abbrev zrz : LoopH := { key := 116, ht := [1, 2, 3, 5, 6, 14, 28, 29, 30], hτ := (fs [yp, yf, yb, ya, yj, (.own yh), ya, yb, yb]), ex := 0, ot := [1, 3, 5, 6, 14], oτ := (fs [yp, yb, ya, yj, (.own yh)]) }
noncomputable def zrP : Code := Code.part (bodyOf 66) [1, 1, 0, 1, 0, 0]
noncomputable def zd1 (O : Oracle E1) (a0 : YC) (a1 : List Yd) (a2 : Int) (a3 : Yb) (a4 : Yg) (a5 : YC) (a6 : Yb) (a7 : Int) (a8 : Int) : Option ((YC × Int × Yb × Yg × YC × Unit) ⊕ Yl) := O.L 66 zrz zrP (a0, a1, a2, a3, a4, a5, a6, a7, a8, ())
noncomputable abbrev zog : LoopH := { key := 8290260, ht := [6, 14, 25, 196, 197, 198], hτ := (fs [yj, yp, ym, yp, yb, yb]), ex := 3, ot := [6, 14, 25], oτ := (fs [yj, yp, ym]) }
noncomputable def zoj : Code := Code.part (bodyOf 66) [1, 1, 1, 1, 1, 0, 0, 1, 1, 1, 1, 1, 1, 1, 1, 1, 0, 1, 0, 1, 0, 0]
noncomputable def zc0 (O : Oracle E1) (a0 : Yg) (a1 : YC) (a2 : Yf) (a3 : YC) (a4 : Int) (a5 : Int) : Option ((Yg × YC × Yf × Unit) ⊕ Yl) := O.L 66 zog zoj (a0, a1, a2, a3, a4, a5, ())
noncomputable abbrev zgh : LoopH := { key := 52, ht := [0, 1, 7, 8], hτ := (fs [ya, (.fn 59 (fs [])), yb, yb]), ex := 0, ot := [], oτ := (fs []) }
noncomputable def zgi : Code := Code.part (bodyOf 78) [1, 0, 1, 0, 0]
noncomputable def zW (O : Oracle E1) (a0 : Yb) (a1 : Unit) (a2 : Int) (a3 : Int) : Option Yv := O.L 3932238 zgh zgi (a0, a1, a2, a3, ())
noncomputable abbrev zn1 : LoopH := { key := 244, ht := [2, 5, 11, 12, 13], hτ := (fs [yj, yb, ya, yb, yb]), ex := 0, ot := [5], oτ := (fs [yb]) }
noncomputable def zn2 : Code := Code.part (bodyOf 104) [1, 1, 1, 0, 1, 0, 0]
noncomputable def zbq (O : Oracle E1) (a0 : Yg) (a1 : Int) (a2 : Yb) (a3 : Int) (a4 : Int) : Option (Yq ⊕ Yc) := O.L 104 zn1 zn2 (a0, a1, a2, a3, a4, ())
noncomputable abbrev zdd : LoopH := { key := 52, ht := [0, 1, 7, 8], hτ := (fs [yh, (.fn 81 yq), yb, yb]), ex := 0, ot := [], oτ := (fs []) }
noncomputable def zde : Code := Code.part (bodyOf 103) [1, 0, 1, 0, 0]
noncomputable def zp (O : Oracle E1) (a0 : Yf) (a1 : Yg × Unit) (a2 : Int) (a3 : Int) : Option Yv := O.L 5374055 zdd zde (a0, a1, a2, a3, ())
noncomputable abbrev zcA : LoopH := { key := 52, ht := [0, 1, 7, 8], hτ := (fs [yp, (.fn 61 yq), yb, yb]), ex := 0, ot := [], oτ := (fs []) }
noncomputable def zcE : Code := Code.part (bodyOf 79) [1, 0, 1, 0, 0]
noncomputable def zh (O : Oracle E1) (a0 : YC) (a1 : Yg × Unit) (a2 : Int) (a3 : Int) : Option Yv := O.L 4063311 zcA zcE (a0, a1, a2, a3, ())
noncomputable abbrev zcT : LoopH := { key := 52, ht := [0, 1, 7, 8], hτ := (fs [yf, (.fn 69 yq), yb, yb]), ex := 0, ot := [], oτ := (fs []) }
noncomputable def zcS : Code := Code.part (bodyOf 73) [1, 0, 1, 0, 0]
noncomputable def zn (O : Oracle E1) (a0 : List Yd) (a1 : Yg × Unit) (a2 : Int) (a3 : Int) : Option Yv := O.L 4587593 zcT zcS (a0, a1, a2, a3, ())
noncomputable abbrev zg0 : LoopH := { key := 52, ht := [0, 1, 7, 8], hτ := (fs [ya, (.fn 70 (fs [(.ptr yf)])), yb, yb]), ex := 0, ot := [], oτ := (fs []) }
noncomputable def zg2 : Code := Code.part (bodyOf 78) [1, 0, 1, 0, 0]
noncomputable def z9 (O : Oracle E1) (a0 : Yb) (a1 : YE) (a2 : Int) (a3 : Int) : Option Yv := O.L 4653134 zg0 zg2 (a0, a1, a2, a3, ())
noncomputable abbrev zq2 : LoopH := { key := 116, ht := [3, 6, 7, 8], hτ := (fs [yi, yh, yb, yb]), ex := 0, ot := [3], oτ := (fs [yi]) }
noncomputable def zrm : Code := Code.part (bodyOf 121) [1, 1, 0, 1, 0, 0]
noncomputable def zfl (O : Oracle E1) (a0 : Ym) (a1 : Yf) (a2 : Int) (a3 : Int) : Option Yz := O.L 121 zq2 zrm (a0, a1, a2, a3, ())
noncomputable abbrev zqy : LoopH := { key := 244, ht := [3, 4, 15, 16, 17], hτ := (fs [(.map yb), (.own yg), yk, yb, yb]), ex := 0, ot := [4], oτ := (fs [(.own yg)]) }
noncomputable def zqI : Code := Code.part (bodyOf 140) [1, 1, 1, 0, 1, 0, 0]
noncomputable def ze9 (O : Oracle E1) (a0 : List (Int × Int)) (a1 : Ym) (a2 : Ym) (a3 : Int) (a4 : Int) : Option Yz := O.L 140 zqy zqI (a0, a1, a2, a3, a4, ())
noncomputable abbrev zpJ : LoopH := { key := 125340, ht := [3, 4, 5, 15, 16, 17, 27, 28, 29], hτ := (fs [(.map yb), (.own yg), yb, yk, yb, yb, ya, yb, yb]), ex := 2, ot := [3, 4, 15, 16, 17], oτ := (fs [(.map yb), (.own yg), yk, yb, yb]) }
noncomputable def zpg : Code := Code.part (bodyOf 140) [1, 1, 1, 0, 1, 0, 0, 1, 1, 0, 0, 1, 1, 1, 0, 0]
noncomputable def zdP (O : Oracle E1) (a0 : List (Int × Int)) (a1 : Ym) (a2 : Int) (a3 : Ym) (a4 : Int) (a5 : Int) (a6 : Yb) (a7 : Int) (a8 : Int) : Option (YD ⊕ Yh) := O.L 140 zpJ zpg (a0, a1, a2, a3, a4, a5, a6, a7, a8, ())
noncomputable abbrev zmq : LoopH := { key := 116, ht := [0, 1, 12, 13], hτ := (fs [ya, ya, yb, yb]), ex := 0, ot := [], oτ := (fs []) }
noncomputable def zmJ : Code := Code.part (bodyOf 94) [1, 1, 0, 1, 0, 0]
noncomputable def zbT (O : Oracle E1) (a0 : Yb) (a1 : Yb) (a2 : Int) (a3 : Int) : Option Ys := O.L 94 zmq zmJ (a0, a1, a2, a3, ())
noncomputable abbrev zeE : LoopH := { key := 52, ht := [0, 1, 7, 8], hτ := (fs [yh, (.fn 141 (fs [(.ptr yc)])), yb, yb]), ex := 0, ot := [], oτ := (fs []) }
noncomputable def zeF : Code := Code.part (bodyOf 103) [1, 0, 1, 0, 0]
noncomputable def zH (O : Oracle E1) (a0 : Yf) (a1 : Ya × Unit) (a2 : Int) (a3 : Int) : Option Yv := O.L 9306215 zeE zeF (a0, a1, a2, a3, ())
noncomputable abbrev zs3 : LoopH := { key := 116, ht := [3, 6, 7, 8], hτ := (fs [ym, yh, yb, yb]), ex := 0, ot := [3], oτ := (fs [ym]) }
noncomputable def zs0 : Code := Code.part (bodyOf 106) [1, 1, 0, 1, 0, 0]
noncomputable def zd6 (O : Oracle E1) (a0 : Yf) (a1 : Yf) (a2 : Int) (a3 : Int) : Option Yw := O.L 106 zs3 zs0 (a0, a1, a2, a3, ())
noncomputable abbrev zml : LoopH := { key := 52, ht := [0, 1, 7, 8], hτ := (fs [ya, yb, yb, yb]), ex := 0, ot := [], oτ := (fs []) }
noncomputable def zmv : Code := Code.part (bodyOf 170) [1, 0, 1, 0, 0]
noncomputable def zbS (O : Oracle E1) (a0 : Yb) (a1 : Int) (a2 : Int) (a3 : Int) : Option Yv := O.L 170 zml zmv (a0, a1, a2, a3, ())
noncomputable abbrev zfO : LoopH := { key := 52, ht := [0, 1, 7, 8], hτ := (fs [yk, (.fn 168 (fs [(.ptr yb)])), yb, yb]), ex := 0, ot := [], oτ := (fs []) }
noncomputable def zfM : Code := Code.part (bodyOf 181) [1, 0, 1, 0, 0]
noncomputable def zV (O : Oracle E1) (a0 : Ym) (a1 : Yq) (a2 : Int) (a3 : Int) : Option Yv := O.L 11075765 zfO zfM (a0, a1, a2, a3, ())
noncomputable abbrev zrL : LoopH := { key := 116, ht := [0, 3, 5], hτ := (fs [yk, yg, yb]), ex := 0, ot := [3], oτ := (fs [yg]) }
noncomputable def zrX : Code := Code.part (bodyOf 144) [1, 1, 0, 1, 0, 0]
noncomputable def zfN (O : Oracle E1) (a0 : Ym) (a1 : Yb) (a2 : Int) : Option YH := O.L 144 zrL zrX (a0, a1, a2, ())
noncomputable abbrev zsN : LoopH := { key := 116, ht := [1, 5, 11, 12], hτ := (fs [yb, yg, yb, yb]), ex := 0, ot := [5], oτ := (fs [yg]), hal := [(10, 5)] }
noncomputable def zss : Code := Code.part (bodyOf 145) [1, 1, 0, 1, 0, 0]
noncomputable def zgU (O : Oracle E1) (a0 : Int) (a1 : Yb) (a2 : Int) (a3 : Int) : Option YH := O.L 145 zsN zss (a0, a1, a2, a3, ())
noncomputable abbrev zel : LoopH := { key := 52, ht := [0, 1, 7, 8], hτ := (fs [yk, (.fn 169 yq), yb, yb]), ex := 0, ot := [], oτ := (fs []) }
noncomputable def zek : Code := Code.part (bodyOf 181) [1, 0, 1, 0, 0]
noncomputable def zC (O : Oracle E1) (a0 : Ym) (a1 : Yg × Unit) (a2 : Int) (a3 : Int) : Option Yv := O.L 11141301 zel zek (a0, a1, a2, a3, ())
noncomputable abbrev zov : LoopH := { key := 500, ht := [2, 3, 8, 10, 29, 30], hτ := (fs [yh, yj, yb, yu, yb, yb]), ex := 0, ot := [2, 3, 10], oτ := (fs [yh, yj, yu]), hal := [(28, 10)] }
noncomputable def zos : Code := Code.part (bodyOf 110) [1, 1, 1, 1, 0, 1, 0, 0]
noncomputable def zbX (O : Oracle E1) (a0 : Yf) (a1 : Yg) (a2 : Int) (a3 : List Yu) (a4 : Int) (a5 : Int) : Option ((Yf × Yg × (List Yu) × Unit) ⊕ Yl) := O.L 110 zov zos (a0, a1, a2, a3, a4, a5, ())
noncomputable abbrev zpW : LoopH := { key := 52, ht := [1, 2, 3, 7], hτ := (fs [ya, yb, yj, yb]), ex := 0, ot := [2], oτ := (fs [yb]) }
noncomputable def zp4 : Code := Code.part (bodyOf 148) [1, 0, 1, 0, 0]
noncomputable def zex (O : Oracle E1) (a0 : Yb) (a1 : Int) (a2 : Yg) (a3 : Int) : Option YF := O.L 148 zpW zp4 (a0, a1, a2, a3, ())
noncomputable abbrev zsU : LoopH := { key := 116, ht := [0, 6, 9, 10, 11], hτ := (fs [yk, yg, ya, yb, yb]), ex := 0, ot := [6], oτ := (fs [yg]) }
noncomputable def zsT : Code := Code.part (bodyOf 114) [1, 1, 0, 1, 0, 0]
noncomputable def zeG (O : Oracle E1) (a0 : Ym) (a1 : Yb) (a2 : Yb) (a3 : Int) (a4 : Int) : Option (Yg ⊕ Yr) := O.L 114 zsU zsT (a0, a1, a2, a3, a4, ())
noncomputable abbrev zoQ : LoopH := { key := 28, ht := [1, 2, 3, 8], hτ := (fs [ya, ya, yj, yi]), ex := 999, ot := [], oτ := (fs []) }
noncomputable def zoM : Code := Code.part (bodyOf 111) [1, 1, 0, 0]
noncomputable def zaA (O : Oracle E1) (a0 : Yb) (a1 : Yb) (a2 : Yg) (a3 : Ym) : Option ((Unit) ⊕ Yi) := O.L 111 zoQ zoM (a0, a1, a2, a3, ())
noncomputable abbrev zoA : LoopH := { key := 904, ht := [1, 2, 3, 8, 9], hτ := (fs [ya, ya, yj, yi, yb]), ex := 2, ot := [1, 2, 3, 8, 9], oτ := (fs [ya, ya, yj, yi, yb]) }
noncomputable def zoy : Code := Code.part (bodyOf 111) [1, 1, 0, 0, 0, 1, 0, 0, 0]
noncomputable def zc2 (O : Oracle E1) (a0 : Yb) (a1 : Yb) (a2 : Yg) (a3 : Ym) (a4 : Int) : Option ((Yb × Yb × Yg × Ym × Int × Unit) ⊕ Yi) := O.L 111 zoA zoy (a0, a1, a2, a3, a4, ())
noncomputable abbrev zmN : LoopH := { key := 3735540, ht := [1, 2, 3, 8, 10, 11, 12, 147, 148], hτ := (fs [yg, yg, yj, yi, yb, ya, yi, yb, yb]), ex := 5, ot := [1, 2, 3, 8, 10, 11], oτ := (fs [yg, yg, yj, yi, yb, ya]), hal := [(146, 8)] }
noncomputable def zmH : Code := Code.part (bodyOf 111) [1, 1, 0, 0, 0, 1, 1, 1, 1, 1, 1, 1, 1, 1, 1, 1, 1, 0, 1, 0, 0]
noncomputable def zz (O : Oracle E1) (a0 : Yb) (a1 : Yb) (a2 : Yg) (a3 : Ym) (a4 : Int) (a5 : Yb) (a6 : Ym) (a7 : Int) (a8 : Int) : Option (Yy ⊕ Yi) := O.L 111 zmN zmH (a0, a1, a2, a3, a4, a5, a6, a7, a8, ())
noncomputable abbrev zol : LoopH := { key := 116, ht := [0, 1, 6, 13, 14], hτ := (fs [yk, yh, yu, yb, yb]), ex := 0, ot := [1, 6], oτ := (fs [yh, yu]), hal := [(12, 6)] }
noncomputable def zot : Code := Code.part (bodyOf 113) [1, 1, 0, 1, 0, 0]
noncomputable def zc4 (O : Oracle E1) (a0 : Ym) (a1 : Yf) (a2 : List Yu) (a3 : Int) (a4 : Int) : Option ((Yf × (List Yu) × Unit) ⊕ Yl) := O.L 113 zol zot (a0, a1, a2, a3, a4, ())
noncomputable abbrev zl5 : LoopH := { key := 116, ht := [0, 3, 9, 10, 11], hτ := (fs [yk, yb, yk, yb, yb]), ex := 0, ot := [0, 3], oτ := (fs [yk, yb]) }
noncomputable def zma : Code := Code.part (bodyOf 149) [1, 1, 0, 1, 0, 0]
noncomputable def zbI (O : Oracle E1) (a0 : Ym) (a1 : Int) (a2 : Ym) (a3 : Int) (a4 : Int) : Option ((Ym × Int × Unit) ⊕ Yo) := O.L 149 zl5 zma (a0, a1, a2, a3, a4, ())
noncomputable abbrev zlH : LoopH := { key := 500, ht := [6, 25, 26, 27], hτ := (fs [yg, yk, yb, yb]), ex := 2, ot := [6], oτ := (fs [yg]) }
noncomputable def zlx : Code := Code.part (bodyOf 149) [1, 1, 1, 1, 0, 1, 0, 0]
noncomputable def zbC (O : Oracle E1) (a0 : Yb) (a1 : Ym) (a2 : Int) (a3 : Int) : Option YH := O.L 149 zlH zlx (a0, a1, a2, a3, ())
noncomputable abbrev ziH : LoopH := { key := 116, ht := [0, 3, 9, 10, 11], hτ := (fs [yp, yb, yp, yb, yb]), ex := 0, ot := [0, 3], oτ := (fs [yp, yb]) }
noncomputable def ziI : Code := Code.part (bodyOf 116) [1, 1, 0, 1, 0, 0]
noncomputable def zaE (O : Oracle E1) (a0 : YC) (a1 : Int) (a2 : YC) (a3 : Int) (a4 : Int) : Option ((YC × Int × Unit) ⊕ Yj) := O.L 116 ziH ziI (a0, a1, a2, a3, a4, ())
noncomputable abbrev zih : LoopH := { key := 500, ht := [6, 25, 26, 27], hτ := (fs [ym, yp, yb, yb]), ex := 2, ot := [6], oτ := (fs [ym]) }
noncomputable def zij : Code := Code.part (bodyOf 116) [1, 1, 1, 1, 0, 1, 0, 0]
noncomputable def zav (O : Oracle E1) (a0 : Yf) (a1 : YC) (a2 : Int) (a3 : Int) : Option Yw := O.L 116 zih zij (a0, a1, a2, a3, ())
noncomputable abbrev zsq : LoopH := { key := 116, ht := [1, 5, 8, 9, 10], hτ := (fs [yb, yb, ya, yb, yb]), ex := 0, ot := [5], oτ := (fs [yb]) }
noncomputable def zsE : Code := Code.part (bodyOf 193) [1, 1, 0, 1, 0, 0]
noncomputable def zgV (O : Oracle E1) (a0 : Int) (a1 : Int) (a2 : Yb) (a3 : Int) (a4 : Int) : Option YF := O.L 193 zsq zsE (a0, a1, a2, a3, a4, ())
noncomputable abbrev zo1 : LoopH := { key := 52, ht := [0, 1, 6], hτ := (fs [ya, ya, yb]), ex := 0, ot := [], oτ := (fs []) }
noncomputable def zoH : Code := Code.part (bodyOf 182) [1, 0, 1, 0, 0]
noncomputable def zdj (O : Oracle E1) (a0 : Yb) (a1 : Yb) (a2 : Int) : Option Ys := O.L 182 zo1 zoH (a0, a1, a2, ())
noncomputable abbrev zoG : LoopH := { key := 244, ht := [1, 23, 24, 25], hτ := (fs [ya, ya, yb, yb]), ex := 0, ot := [], oτ := (fs []) }
noncomputable def zoU : Code := Code.part (bodyOf 172) [1, 1, 1, 0, 1, 0, 0]
noncomputable def zdu (O : Oracle E1) (a0 : Yb) (a1 : Yb) (a2 : Int) (a3 : Int) : Option Ys := O.L 172 zoG zoU (a0, a1, a2, a3, ())
noncomputable abbrev zfd : LoopH := { key := 52, ht := [0, 1, 7, 8], hτ := (fs [yk, (.fn 194 (fs [ys])), yb, yb]), ex := 0, ot := [], oτ := (fs []) }
noncomputable def zfo : Code := Code.part (bodyOf 181) [1, 0, 1, 0, 0]
noncomputable def zO (O : Oracle E1) (a0 : Ym) (a1 : Yg) (a2 : Int) (a3 : Int) : Option Yv := O.L 12779701 zfd zfo (a0, a1, a2, a3, ())
noncomputable abbrev zpw : LoopH := { key := 52, ht := [0, 7, 8, 9], hτ := (fs [yk, yk, yb, yb]), ex := 0, ot := [0], oτ := (fs [yk]) }
noncomputable def zpx : Code := Code.part (bodyOf 186) [1, 0, 1, 0, 0]
noncomputable def zdK (O : Oracle E1) (a0 : Ym) (a1 : Ym) (a2 : Int) (a3 : Int) : Option ((Ym × Unit) ⊕ Yc) := O.L 186 zpw zpx (a0, a1, a2, a3, ())
noncomputable abbrev zes : LoopH := { key := 52, ht := [0, 1, 7, 8], hτ := (fs [yk, (.fn 184 (fs [ys])), yb, yb]), ex := 0, ot := [], oτ := (fs []) }
noncomputable def zen : Code := Code.part (bodyOf 181) [1, 0, 1, 0, 0]
noncomputable def zf (O : Oracle E1) (a0 : Ym) (a1 : Yg) (a2 : Int) (a3 : Int) : Option Yv := O.L 12124341 zes zen (a0, a1, a2, a3, ())
noncomputable abbrev znC : LoopH := { key := 244, ht := [5, 6, 12, 13, 14], hτ := (fs [yi, yi, yk, yb, yb]), ex := 0, ot := [5, 6], oτ := (fs [yi, yi]) }
noncomputable def znt : Code := Code.part (bodyOf 173) [1, 1, 1, 0, 1, 0, 0]
noncomputable def zci (O : Oracle E1) (a0 : Ym) (a1 : Ym) (a2 : Ym) (a3 : Int) (a4 : Int) : Option ((Ym × Ym × Unit) ⊕ Ye) := O.L 173 znC znt (a0, a1, a2, a3, a4, ())
noncomputable abbrev zpy : LoopH := { key := 52, ht := [0, 1, 7, 8, 9], hτ := (fs [yh, yb, yh, yb, yb]), ex := 0, ot := [], oτ := (fs []) }
noncomputable def zpz : Code := Code.part (bodyOf 119) [1, 0, 1, 0, 0]
noncomputable def zcv (O : Oracle E1) (a0 : Yf) (a1 : Int) (a2 : Yf) (a3 : Int) (a4 : Int) : Option Ys := O.L 119 zpy zpz (a0, a1, a2, a3, a4, ())
noncomputable abbrev zoB : LoopH := { key := 244, ht := [1, 3, 4, 10, 18, 19, 20], hτ := (fs [yi, ya, yj, yb, ya, yb, yb]), ex := 0, ot := [1, 3, 10], oτ := (fs [yi, ya, yb]) }
noncomputable def zoF : Code := Code.part (bodyOf 187) [1, 1, 1, 0, 1, 0, 0]
noncomputable def zaP (O : Oracle E1) (a0 : Ym) (a1 : Yb) (a2 : Yg) (a3 : Int) (a4 : Yb) (a5 : Int) (a6 : Int) : Option ((Ym × Yb × Int × Unit) ⊕ Yi) := O.L 187 zoB zoF (a0, a1, a2, a3, a4, a5, a6, ())
noncomputable abbrev zs4 : LoopH := { key := 52, ht := [0, 6, 7], hτ := (fs [yi, yb, yb]), ex := 0, ot := [0], oτ := (fs [yi]), hal := [(5, 0)] }
noncomputable def zsX : Code := Code.part (bodyOf 188) [1, 0, 1, 0, 0]
noncomputable def zhz (O : Oracle E1) (a0 : Ym) (a1 : Int) (a2 : Int) : Option Yz := O.L 188 zs4 zsX (a0, a1, a2, ())
noncomputable abbrev znR : LoopH := { key := 1012, ht := [1, 12, 41, 42], hτ := (fs [ya, yg, yb, yb]), ex := 0, ot := [12], oτ := (fs [yg]), hal := [(40, 12)] }
noncomputable def znM : Code := Code.part (bodyOf 175) [1, 1, 1, 1, 1, 0, 1, 0, 0]
noncomputable def zbE (O : Oracle E1) (a0 : Yb) (a1 : Yb) (a2 : Int) (a3 : Int) : Option (Yg ⊕ Yr) := O.L 175 znR znM (a0, a1, a2, a3, ())
noncomputable abbrev zpa : LoopH := { key := 52, ht := [1, 2, 3, 10], hτ := (fs [ya, yh, yj, yb]), ex := 0, ot := [], oτ := (fs []) }
noncomputable def zpo : Code := Code.part (bodyOf 153) [1, 0, 1, 0, 0]
noncomputable def zbN (O : Oracle E1) (a0 : Yb) (a1 : Yf) (a2 : Yg) (a3 : Int) : Option ((Unit) ⊕ Yn) := O.L 153 zpa zpo (a0, a1, a2, a3, ())
noncomputable abbrev zoz : LoopH := { key := 6732, ht := [1, 2, 3, 10, 11, 30, 31, 32], hτ := (fs [ya, yh, yj, yb, yg, yh, yb, yb]), ex := 2, ot := [1, 2, 3, 10], oτ := (fs [ya, yh, yj, yb]) }
noncomputable def zoD : Code := Code.part (bodyOf 153) [1, 0, 1, 0, 0, 1, 0, 0, 1, 1, 0, 0]
noncomputable def zbA (O : Oracle E1) (a0 : Yb) (a1 : Yf) (a2 : Yg) (a3 : Int) (a4 : Yb) (a5 : Yf) (a6 : Int) (a7 : Int) : Option YJ := O.L 153 zoz zoD (a0, a1, a2, a3, a4, a5, a6, a7, ())
noncomputable abbrev znP : LoopH := { key := 1723596, ht := [1, 2, 3, 10, 11, 12, 13, 30, 31, 32, 37], hτ := (fs [ya, yh, yj, yb, yg, yb, (.box yc), yh, yb, yb, yb]), ex := 4, ot := [1, 2, 3, 10, 11, 30, 31, 32], oτ := (fs [ya, yh, yj, yb, yg, yh, yb, yb]) }
noncomputable def znB : Code := Code.part (bodyOf 153) [1, 0, 1, 0, 0, 1, 0, 0, 1, 1, 0, 0, 1, 1, 0, 0, 1, 1, 0, 0]
noncomputable def zbi (O : Oracle E1) (a0 : Yb) (a1 : Yf) (a2 : Yg) (a3 : Int) (a4 : Yb) (a5 : Int) (a6 : Ya) (a7 : Yf) (a8 : Int) (a9 : Int) (a10 : Int) : Option YB := O.L 153 znP znB (a0, a1, a2, a3, a4, a5, a6, a7, a8, a9, a10, ())
noncomputable abbrev zor : LoopH := { key := 60, ht := [1, 2, 3, 8], hτ := (fs [yg, yh, yj, yb]), ex := 999, ot := [], oτ := (fs []) }
noncomputable def zoi : Code := Code.part (bodyOf 122) [1, 1, 1, 0, 0]
noncomputable def zcV (O : Oracle E1) (a0 : Yb) (a1 : Yf) (a2 : Yg) (a3 : Int) : Option ((Unit) ⊕ YA) := O.L 122 zor zoi (a0, a1, a2, a3, ())
noncomputable abbrev zk7 : LoopH := { key := 244, ht := [1, 2, 3, 8, 9, 16, 17], hτ := (fs [yh, yh, yj, yu, yb, yb, yb]), ex := 0, ot := [1, 8, 9], oτ := (fs [yh, yu, yb]), hal := [(15, 8)] }
noncomputable def zk6 : Code := Code.part (bodyOf 91) [1, 1, 1, 0, 1, 0, 0]
noncomputable def zbB (O : Oracle E1) (a0 : Yf) (a1 : Yf) (a2 : Yg) (a3 : List Yu) (a4 : Int) (a5 : Int) (a6 : Int) : Option ((Yf × (List Yu) × Int × Unit) ⊕ Yk) := O.L 91 zk7 zk6 (a0, a1, a2, a3, a4, a5, a6, ())
noncomputable abbrev zng : LoopH := { key := 8060852, ht := [6, 10, 14, 16, 17], hτ := (fs [yj, ys, (.fn 83 (fs [(.ptr yf), ys])), ym, yb]), ex := 1, ot := [6, 14, 16], oτ := (fs [yj, (.fn 83 (fs [(.ptr yf), ys])), ym]) }
noncomputable def znb : Code := Code.part (bodyOf 63) [1, 1, 1, 0, 1, 0, 1, 1, 1, 1, 1, 1, 1, 1, 1, 0, 1, 1, 0, 1, 0, 0]
noncomputable def zb8 (O : Oracle E1) (a0 : Yg) (a1 : Yb) (a2 : (List Yd) × Yb × Unit) (a3 : Yf) (a4 : Int) : Option ((Yg × ((List Yd) × Yb × Unit) × Yf × Unit) ⊕ Yl) := O.L 63 zng znb (a0, a1, a2, a3, a4, ())
noncomputable abbrev zqm : LoopH := { key := 52, ht := [0, 1, 5], hτ := (fs [yg, yb, yb]), ex := 0, ot := [0, 1], oτ := (fs [yg, yb]) }
noncomputable def zpS : Code := Code.part (bodyOf 25) [1, 0, 1, 0, 0]
noncomputable def zeA (O : Oracle E1) (a0 : Yb) (a1 : Int) (a2 : Int) : Option ((Yb × Int × Unit) ⊕ (Yq × Yg)) := O.L 25 zqm zpS (a0, a1, a2, ())
noncomputable abbrev zp2 : LoopH := { key := 52, ht := [0, 1, 5], hτ := (fs [ye, yb, yb]), ex := 0, ot := [0, 1], oτ := (fs [ye, yb]) }
noncomputable def zqi : Code := Code.part (bodyOf 46) [1, 0, 1, 0, 0]
noncomputable def zeD (O : Oracle E1) (a0 : Yf) (a1 : Int) (a2 : Int) : Option ((Yf × Int × Unit) ⊕ (Yq × (Yf × Unit))) := O.L 46 zp2 zqi (a0, a1, a2, ())
noncomputable abbrev zo7 : LoopH := { key := 52, ht := [0, 1, 5], hτ := (fs [(.own ye), yb, yb]), ex := 0, ot := [0, 1], oτ := (fs [(.own ye), yb]) }
noncomputable def zo9 : Code := Code.part (bodyOf 23) [1, 0, 1, 0, 0]
noncomputable def zdS (O : Oracle E1) (a0 : YC) (a1 : Int) (a2 : Int) : Option ((YC × Int × Unit) ⊕ (Yq × (YC × Unit))) := O.L 23 zo7 zo9 (a0, a1, a2, ())
noncomputable abbrev zpj : LoopH := { key := 52, ht := [0, 1, 5], hτ := (fs [(.own yo), yb, yb]), ex := 0, ot := [0, 1], oτ := (fs [(.own yo), yb]) }
noncomputable def zpm : Code := Code.part (bodyOf 24) [1, 0, 1, 0, 0]
noncomputable def zdQ (O : Oracle E1) (a0 : List Yd) (a1 : Int) (a2 : Int) : Option (((List Yd) × Int × Unit) ⊕ (Yq × YE)) := O.L 24 zpj zpm (a0, a1, a2, ())
noncomputable abbrev zp1 : LoopH := { key := 52, ht := [0, 1, 5], hτ := (fs [ya, yb, yb]), ex := 0, ot := [1], oτ := (fs [yb]) }
noncomputable def zpZ : Code := Code.part (bodyOf 47) [1, 0, 1, 0, 0]
noncomputable def zez (O : Oracle E1) (a0 : Yb) (a1 : Int) (a2 : Int) : Option YF := O.L 47 zp1 zpZ (a0, a1, a2, ())
noncomputable abbrev zqj : LoopH := { key := 52, ht := [0, 1, 5], hτ := (fs [yh, yb, yb]), ex := 0, ot := [1], oτ := (fs [yb]) }
noncomputable def zqn : Code := Code.part (bodyOf 48) [1, 0, 1, 0, 0]
noncomputable def zeC (O : Oracle E1) (a0 : Yf) (a1 : Int) (a2 : Int) : Option YF := O.L 48 zqj zqn (a0, a1, a2, ())
end Go.Proofs.YtkgpnekonnopgaaGreatMs.Ev
