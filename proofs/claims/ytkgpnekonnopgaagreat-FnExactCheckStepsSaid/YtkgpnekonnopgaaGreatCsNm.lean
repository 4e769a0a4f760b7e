/- A text of its own: Nm; no condition but those that each theorem names. -/
import Derived.Test.YtkgpnekonnopgaaGreatCsEnv
import Derived.Test.YtkgpnekonnopgaaGreatCsEvWt
namespace Go.Proofs.YtkgpnekonnopgaaGreatCs.Ev
open Go Go.IntKind
set_option maxRecDepth 100000
set_option autoImplicit false
set_option linter.unusedVariables false
abbrev Ya := Bool × (List Int) × (List Int) × Unit
abbrev Yb := List Int
abbrev Yc := (Bool × Unit) × (Unit)
abbrev Yd := Int × Yb × Yb × (List Ya) × Unit
abbrev Ye := (Int × Unit) × (Unit)
abbrev Yf := List Ya
abbrev Yg := Yb × Unit
abbrev Yh := ((List Yb) × Unit) × (Unit)
abbrev Yi := ((List Yb) × Bool × Unit) × (Unit)
abbrev Yj := (Yf × Unit) × (Unit)
abbrev Yk := (Yf × Int × Unit) × (Unit)
abbrev Yl := (Yf × Bool × Unit) × (Unit)
abbrev Ym := List Yb
abbrev Yn := (Yb × Int × Int × Bool × Unit) × (Unit)
abbrev Yo := Yg × (Unit)
abbrev Yp := Yg × (Int × Int × Int × Int × Int × Unit) × Yb × Yb × Yb × Yb × Ym × Yf × Yf × Yf × Unit
abbrev Yq := (Unit) ⊕ Yc
abbrev Yr := (Yb × Bool × Unit) × (Unit)
abbrev Ys := (Yf × Int × Unit) ⊕ (Yf × Bool × Unit) × (Unit)
abbrev Yt := Option (Bool × List Int)
abbrev Yu := (Int × Unit) ⊕ Ye
abbrev Yv := (Yf × Unit) ⊕ Yj
abbrev Yw := (Unit) ⊕ Ye
abbrev Yx := Yb × Yb × Yg × Ym × Int × Yb × Unit
abbrev Yy := (Ym × Unit) ⊕ Yh
abbrev Yz := (Yb × Int × Unit) × (Unit)
abbrev YA := (Yb × Yf × Yg × Int × Yb × Yf × Int × Int × Unit) ⊕ Yn
abbrev YB := (Int × Int × Bool × Unit) × (Unit)
abbrev YC := (List (Int × Int)) × Ym × Ym × Int × Int × Unit
abbrev YD := Yb × Ym × Yb × Int × Ym × Int × Int × Yb × Int × Int × Unit
abbrev YE := List Yf
abbrev YF := Yg ⊕ Yo
abbrev YG := (Int × Yb × Yg × YE × Yf × Int × Bool × Unit) ⊕ Ys
abbrev YH := (Yb × Yf × Yg × Int × Unit) ⊕ Yn
abbrev YI := ((List (Int × Int)) × Ym × Int × Ym × Int × Int × Yb × Int × Int × Unit) ⊕ (YC ⊕ (Yh))
abbrev YJ := List Yd
abbrev YK := Ym × Ym × Yb × Int × Ym × Int × Int × Unit
abbrev YL := Ym × Yb × Yg × Int × Yb × Int × Int × Unit
noncomputable abbrev M : Oracle E1 := Lm E1
noncomputable def zdF (O : Oracle E1) (a0 : Yb) (a1 : Int) : Option Ye := O.C 30 (a0, a1, ())
noncomputable def zjz (O : Oracle E1) (a0 : Yg) (a1 : Int) : Option Ye := O.C 6 (a0, a1, ())
noncomputable def zkk (O : Oracle E1) (a0 : Ya) (a1 : Int) : Option Ye := O.C 53 (a0, a1, ())
noncomputable def zhR (O : Oracle E1) (a0 : Yf) (a1 : Int) : Option Ye := O.C 31 (a0, a1, ())
noncomputable def ziR (O : Oracle E1) (a0 : YE) (a1 : Int) : Option Ye := O.C 7 (a0, a1, ())
noncomputable def zjs (O : Oracle E1) (a0 : Yd) (a1 : Int) : Option Ye := O.C 32 (a0, a1, ())
noncomputable def ziY (O : Oracle E1) (a0 : YJ) (a1 : Int) : Option Ye := O.C 8 (a0, a1, ())
noncomputable def zaw (O : Oracle E1) (a0 : Int) (a1 : Int) (a2 : Int) : Option Yc := O.C 76 (a0, a1, a2, ())
noncomputable def zeu (O : Oracle E1) (a0 : Yg) (a1 : Yb) (a2 : Int) : Option Ye := O.C 138 (a0, a1, a2, ())
noncomputable def zcc (O : Oracle E1) (a0 : Yg) (a1 : Yb) : Option Yc := O.C 101 (a0, a1, ())
noncomputable def zho (O : Oracle E1) (a0 : Yg) (a1 : Ya) : Option Yc := O.C 75 (a0, a1, ())
noncomputable def za3 (O : Oracle E1) (a0 : Yg) (a1 : Yf) : Option Yc := O.C 54 (a0, a1, ())
noncomputable def zhi (O : Oracle E1) (a0 : Yb) (a1 : Int) (a2 : Int) : Option Yc := O.C 72 (a0, a1, a2, ())
noncomputable def zik (O : Oracle E1) (a0 : Yg) : Option Yc := O.C 55 (a0, ())
noncomputable def zeB (O : Oracle E1) (a0 : Yg) (a1 : YE) : Option Yc := O.C 33 (a0, a1, ())
noncomputable def zde (O : Oracle E1) (a0 : Yb) (a1 : Int) : Option Yc := O.C 161 (a0, a1, ())
noncomputable def zih (O : Oracle E1) (a0 : Ym) : Option Yh := O.C 154 (a0, ())
noncomputable def ziW (O : Oracle E1) (a0 : Yf) : Option Yh := O.C 155 (a0, ())
noncomputable def ziq (O : Oracle E1) (a0 : Yf) : Option Yj := O.C 124 (a0, ())
noncomputable def zaO (O : Oracle E1) (a0 : Yb) (a1 : Yb) : Option Yc := O.C 102 (a0, a1, ())
noncomputable def zbr (O : Oracle E1) (a0 : Yb) : Option Yo := O.C 67 (a0, ())
noncomputable def zhb (O : Oracle E1) (a0 : Yf) : Option Yj := O.C 136 (a0, ())
noncomputable def zgE (O : Oracle E1) (a0 : Ya) (a1 : Ya) : Option Yc := O.C 156 (a0, a1, ())
noncomputable def zjD (O : Oracle E1) (a0 : Yf) : Option Yj := O.C 125 (a0, ())
noncomputable def za5 (O : Oracle E1) (a0 : Yf) : Option Yj := O.C 95 (a0, ())
noncomputable def zfQ (O : Oracle E1) (a0 : Yf) (a1 : Int) (a2 : Int) : Option Yc := O.C 126 (a0, a1, a2, ())
noncomputable def zbe (O : Oracle E1) (a0 : Ya) (a1 : Int) : Option ((Yb × Yb × Unit) × (Unit)) := O.C 127 (a0, a1, ())
noncomputable def ziD (O : Oracle E1) (a0 : Yb) (a1 : Int) : Option Yo := O.C 190 (a0, a1, ())
noncomputable def zeV (O : Oracle E1) (a0 : Yb) : Option Yo := O.C 189 (a0, ())
noncomputable def zjp (O : Oracle E1) (a0 : Yf) : Option Yo := O.C 176 (a0, ())
noncomputable def ziO (O : Oracle E1) (a0 : Yf) : Option Ye := O.C 157 (a0, ())
noncomputable def zhp (O : Oracle E1) (a0 : Yb) (a1 : Int) : Option Yo := O.C 158 (a0, a1, ())
noncomputable def zjA (O : Oracle E1) (a0 : Yg) (a1 : Yf) : Option Yl := O.C 159 (a0, a1, ())
noncomputable def ziX (O : Oracle E1) (a0 : Yg) (a1 : Yf) (a2 : Yf) : Option Yl := O.C 128 (a0, a1, a2, ())
noncomputable def zbp (O : Oracle E1) (a0 : Yg) (a1 : Yb) (a2 : Int) : Option Yo := O.C 130 (a0, a1, a2, ())
noncomputable def zt (O : Oracle E1) (a0 : Ym) (a1 : Yb) : Option Yo := O.C 132 (a0, a1, ())
noncomputable def zhm (O : Oracle E1) (a0 : Yg) (a1 : Ym) (a2 : Yb) (a3 : Yb) : Option Yc := O.C 160 (a0, a1, a2, a3, ())
noncomputable def zgb (O : Oracle E1) (a0 : Ym) (a1 : Int) (a2 : Yb) : Option Yh := O.C 162 (a0, a1, a2, ())
noncomputable def zfu (O : Oracle E1) (a0 : Yg) (a1 : Yb) (a2 : Yb) : Option Yi := O.C 129 (a0, a1, a2, ())
noncomputable def zd2 (O : Oracle E1) (a0 : Ym) (a1 : Yf) : Option Yj := O.C 131 (a0, a1, ())
noncomputable def zdZ (O : Oracle E1) (a0 : Yg) (a1 : Yb) (a2 : Int) (a3 : Yb) : Option Yo := O.C 133 (a0, a1, a2, a3, ())
noncomputable def zhn (O : Oracle E1) (a0 : Yb) (a1 : Int) : Option Ye := O.C 196 (a0, a1, ())
noncomputable def zie (O : Oracle E1) (a0 : Yb) (a1 : Yb) : Option Yc := O.C 191 (a0, a1, ())
noncomputable def zcP (O : Oracle E1) (a0 : Yb) (a1 : Yb) : Option Yc := O.C 177 (a0, a1, ())
noncomputable def zhK (O : Oracle E1) (a0 : Yb) (a1 : Yb) : Option Ye := O.C 163 (a0, a1, ())
noncomputable def zge (O : Oracle E1) (a0 : Yb) (a1 : Yb) : Option Yc := O.C 134 (a0, a1, ())
noncomputable def zhN (O : Oracle E1) (a0 : Ym) (a1 : Ym) : Option Yh := O.C 178 (a0, a1, ())
noncomputable def zeZ (O : Oracle E1) (a0 : Ym) (a1 : Ym) : Option Yc := O.C 179 (a0, a1, ())
noncomputable def ziP (O : Oracle E1) (a0 : Ym) (a1 : Ym) : Option Ye := O.C 164 (a0, a1, ())
noncomputable def zhO (O : Oracle E1) (a0 : Ya) : Option Yh := O.C 165 (a0, ())
noncomputable def zcN (O : Oracle E1) (a0 : Yf) (a1 : Int) : Option Yc := O.C 135 (a0, a1, ())
noncomputable def zcV (O : Oracle E1) (a0 : Yg) (a1 : Yf) (a2 : Yf) (a3 : Int × Int × Int × Int × Int × Unit) : Option Yk := O.C 96 (a0, a1, a2, a3, ())
noncomputable def zd0 (O : Oracle E1) (a0 : Yg) (a1 : Yf) (a2 : Int) : Option Yk := O.C 97 (a0, a1, a2, ())
noncomputable def zeE (O : Oracle E1) (a0 : Yg) (a1 : Yf) (a2 : Int × Int × Int × Int × Int × Unit) : Option Yk := O.C 98 (a0, a1, a2, ())
noncomputable def zjr (O : Oracle E1) (a0 : Yf) : Option Yc := O.C 99 (a0, ())
noncomputable def zhg (O : Oracle E1) (a0 : Yg) (a1 : Ym) (a2 : Yb) (a3 : Yb) : Option Yi := O.C 192 (a0, a1, a2, a3, ())
noncomputable def zhX (O : Oracle E1) (a0 : Yg) (a1 : Yb) (a2 : Yb) (a3 : Yb) : Option Yr := O.C 180 (a0, a1, a2, a3, ())
noncomputable def zhS (O : Oracle E1) (a0 : Yg) (a1 : Yb) (a2 : Yf) : Option Yn := O.C 166 (a0, a1, a2, ())
noncomputable def zeQ (O : Oracle E1) (a0 : Yg) (a1 : Yb) (a2 : Yf) : Option Yz := O.C 137 (a0, a1, a2, ())
noncomputable def zio (O : Oracle E1) (a0 : Yg) (a1 : Yf) (a2 : Yf) : Option Yk := O.C 100 (a0, a1, a2, ())
noncomputable def zjo (O : Oracle E1) (a0 : Yg) (a1 : YE) (a2 : YJ) (a3 : Int) (a4 : Yb) (a5 : Yb) : Option Yl := O.C 66 (a0, a1, a2, a3, a4, a5, ())
noncomputable def zg5 (O : Oracle E1) (a0 : Yf) (a1 : Yf) : Option Yc := O.C 77 (a0, a1, ())
noncomputable def zjm (O : Oracle E1) (a0 : Yg) (a1 : YE) (a2 : YJ) (a3 : Int) : Option Ye := O.C 56 (a0, a1, a2, a3, ())
noncomputable def zdY (O : Oracle E1) (a0 : Yg) (a1 : YE) (a2 : YJ) : Option ((Int × Int × Unit) × (Unit)) := O.C 34 (a0, a1, a2, ())
noncomputable def zdC (O : Oracle E1) (a0 : Yg) (a1 : YE) (a2 : YJ) : Option YB := O.C 9 (a0, a1, a2, ())
noncomputable def zdE (O : Oracle E1) (a0 : Yb) : Option Yo := O.C 18 (a0, ())
noncomputable def zf8 (O : Oracle E1) (a0 : Yg) : Option ((Yg × Unit) × (Unit)) := O.C 10 (a0, ())
noncomputable def zko (O : Oracle E1) (a0 : Ya) : Option ((Ya × Unit) × (Unit)) := O.C 57 (a0, ())
noncomputable def zhM (O : Oracle E1) (a0 : Yf) : Option Yj := O.C 35 (a0, ())
noncomputable def zfv (O : Oracle E1) (a0 : YE) : Option ((YE × Unit) × (Unit)) := O.C 11 (a0, ())
noncomputable def zjy (O : Oracle E1) (a0 : Yd) : Option ((Yd × Unit) × (Unit)) := O.C 36 (a0, ())
noncomputable def zft (O : Oracle E1) (a0 : YJ) : Option ((YJ × Unit) × (Unit)) := O.C 12 (a0, ())
noncomputable def zgR (O : Oracle E1) (a0 : Int) : Option Yc := O.C 59 (a0, ())
noncomputable def zbo (O : Oracle E1) (a0 : Yb) (a1 : Unit) : Option Ye := O.C 3932238 (a0, a1, ())
noncomputable def zar (O : Oracle E1) (a0 : Yb) (a1 : Unit) : Option Yc := O.C 3932218 (a0, a1, ())
noncomputable def zii (O : Oracle E1) (a0 : Yg) : Option Yc := O.C 37 (a0, ())
noncomputable def zd4 (O : Oracle E1) (a0 : Yg) (a1 : Int) : Option Ye := O.C 139 (a0, a1, ())
noncomputable def zcW (O : Oracle E1) (a0 : Yg) (a1 : Yb) : Option Yc := O.C 104 (a0, a1, ())
noncomputable def zg0 (O : Oracle E1) (a0 : Yg) (a1 : Ya) : Option Yc := O.C 82 (a0, a1, ())
noncomputable def zej (O : Oracle E1) (a0 : Ya) (a1 : Yg) : Option Yc := O.C 81 (a0, a1, ())
noncomputable def zaq (O : Oracle E1) (a0 : Yf) (a1 : Yg × Unit) : Option Ye := O.C 5374055 (a0, a1, ())
noncomputable def zL (O : Oracle E1) (a0 : Yf) (a1 : Yg × Unit) : Option Yc := O.C 5374032 (a0, a1, ())
noncomputable def zfh (O : Oracle E1) (a0 : Yg) (a1 : Yf) : Option Yc := O.C 62 (a0, a1, ())
noncomputable def zch (O : Oracle E1) (a0 : Yf) (a1 : Yg) : Option Yc := O.C 61 (a0, a1, ())
noncomputable def zaf (O : Oracle E1) (a0 : YE) (a1 : Yg × Unit) : Option Ye := O.C 4063311 (a0, a1, ())
noncomputable def zm (O : Oracle E1) (a0 : YE) (a1 : Yg × Unit) : Option Yc := O.C 4063292 (a0, a1, ())
noncomputable def zc6 (O : Oracle E1) (a0 : Yg) (a1 : YE) : Option Yc := O.C 38 (a0, a1, ())
noncomputable def ziV (O : Oracle E1) (a0 : Int) (a1 : YJ) : Option Yc := O.C 70 (a0, a1, ())
noncomputable def zbC (O : Oracle E1) (a0 : Yb) (a1 : YJ × Unit) : Option Ye := O.C 4653134 (a0, a1, ())
noncomputable def zaG (O : Oracle E1) (a0 : Yb) (a1 : YJ × Unit) : Option Yc := O.C 4653114 (a0, a1, ())
noncomputable def zj5 (O : Oracle E1) (a0 : YJ) (a1 : Yb) : Option Yc := O.C 44 (a0, a1, ())
noncomputable def zZ (O : Oracle E1) (a0 : Int) (a1 : YJ) (a2 : Yb) : Option Yj := O.C 83 (a0, a1, a2, ())
noncomputable def zb6 (O : Oracle E1) (a0 : Int) (a1 : Int) (a2 : Yb) (a3 : Yb) : Option Yc := O.C 84 (a0, a1, a2, a3, ())
noncomputable def zce (O : Oracle E1) (a0 : Yf) : Option Yh := O.C 121 (a0, ())
noncomputable def zb7 (O : Oracle E1) (a0 : Yf) (a1 : Ym) : Option Yj := O.C 123 (a0, a1, ())
noncomputable def zjF (O : Oracle E1) (a0 : Ym) : Option Yh := O.C 140 (a0, ())
noncomputable def zf0 (O : Oracle E1) (a0 : Yf) : Option Yj := O.C 105 (a0, ())
noncomputable def zu (O : Oracle E1) (a0 : Yb) (a1 : Yb) : Option Yc := O.C 94 (a0, a1, ())
noncomputable def zhe (O : Oracle E1) (a0 : Ya) : Option ((Ya × Unit) × (Unit)) := O.C 143 (a0, ())
noncomputable def zhI (O : Oracle E1) (a0 : Ya) (a1 : Ya) : Option Yc := O.C 142 (a0, a1, ())
noncomputable def zjn (O : Oracle E1) (a0 : Ya) (a1 : Ya) : Option Yc := O.C 141 (a0, a1, ())
noncomputable def za1 (O : Oracle E1) (a0 : Yf) (a1 : Ya × Unit) : Option Ye := O.C 9306215 (a0, a1, ())
noncomputable def zH (O : Oracle E1) (a0 : Yf) (a1 : Ya × Unit) : Option Yc := O.C 9306192 (a0, a1, ())
noncomputable def zlj (O : Oracle E1) (a0 : Yf) : Option Yj := O.C 106 (a0, ())
noncomputable def zb2 (O : Oracle E1) (a0 : Yf) : Option Yj := O.C 85 (a0, ())
noncomputable def zeR (O : Oracle E1) (a0 : Yf) (a1 : Int) : Option Yl := O.C 86 (a0, a1, ())
noncomputable def zcb (O : Oracle E1) (a0 : Yf) (a1 : Int) (a2 : Bool) : Option Yc := O.C 107 (a0, a1, a2, ())
noncomputable def zeT (O : Oracle E1) (a0 : Int) : Option Yc := O.C 108 (a0, ())
noncomputable def zak (O : Oracle E1) (a0 : Ya) (a1 : Int) : Option ((Yb × Yb × Unit) × (Unit)) := O.C 109 (a0, a1, ())
noncomputable def zgH (O : Oracle E1) (a0 : Yb) (a1 : Int) : Option Ye := O.C 170 (a0, a1, ())
noncomputable def zaX (O : Oracle E1) (a0 : Yb) (a1 : Int) : Option Yc := O.C 147 (a0, a1, ())
noncomputable def zil (O : Oracle E1) (a0 : Yb) (a1 : Int) : Option Yc := O.C 168 (a0, a1, ())
noncomputable def zbl (O : Oracle E1) (a0 : Ym) (a1 : Int × Unit) : Option Ye := O.C 11075765 (a0, a1, ())
noncomputable def zap (O : Oracle E1) (a0 : Ym) (a1 : Int × Unit) : Option Yc := O.C 11075751 (a0, a1, ())
noncomputable def zjt (O : Oracle E1) (a0 : Ym) : Option Yo := O.C 144 (a0, ())
noncomputable def zku (O : Oracle E1) (a0 : Yb) (a1 : Int) : Option Yo := O.C 145 (a0, a1, ())
noncomputable def zeb (O : Oracle E1) (a0 : Yb) (a1 : Yg) : Option Yc := O.C 169 (a0, a1, ())
noncomputable def zaR (O : Oracle E1) (a0 : Ym) (a1 : Yg × Unit) : Option Ye := O.C 11141301 (a0, a1, ())
noncomputable def zY (O : Oracle E1) (a0 : Ym) (a1 : Yg × Unit) : Option Yc := O.C 11141287 (a0, a1, ())
noncomputable def zdc (O : Oracle E1) (a0 : Yg) (a1 : Ym) : Option Yc := O.C 146 (a0, a1, ())
noncomputable def zg7 (O : Oracle E1) (a0 : Yg) (a1 : Yf) (a2 : Yf) : Option Yl := O.C 110 (a0, a1, a2, ())
noncomputable def zco (O : Oracle E1) (a0 : Yg) (a1 : Yb) (a2 : Int) : Option Ye := O.C 148 (a0, a1, a2, ())
noncomputable def zas (O : Oracle E1) (a0 : Yg) (a1 : Yb) (a2 : Int) : Option Yo := O.C 112 (a0, a1, a2, ())
noncomputable def zbx (O : Oracle E1) (a0 : Ym) (a1 : Yb) : Option Yr := O.C 114 (a0, a1, ())
noncomputable def zdz (O : Oracle E1) (a0 : Yg) (a1 : Yb) (a2 : Yb) : Option Yi := O.C 111 (a0, a1, a2, ())
noncomputable def zb3 (O : Oracle E1) (a0 : Ym) (a1 : Yf) : Option Yl := O.C 113 (a0, a1, ())
noncomputable def zdK (O : Oracle E1) (a0 : Ym) : Option Yo := O.C 149 (a0, ())
noncomputable def zdX (O : Oracle E1) (a0 : Yg) (a1 : Yb) (a2 : Int) (a3 : Yb) : Option Yo := O.C 115 (a0, a1, a2, a3, ())
noncomputable def zaZ (O : Oracle E1) (a0 : YE) : Option Yj := O.C 116 (a0, ())
noncomputable def zaK (O : Oracle E1) (a0 : Yf) (a1 : Bool) : Option Yk := O.C 117 (a0, a1, ())
noncomputable def zix (O : Oracle E1) (a0 : Yb) (a1 : Int) : Option Ye := O.C 193 (a0, a1, ())
noncomputable def zg2 (O : Oracle E1) (a0 : Yb) (a1 : Yb) : Option Yc := O.C 182 (a0, a1, ())
noncomputable def zcM (O : Oracle E1) (a0 : Yb) (a1 : Yb) : Option Yc := O.C 172 (a0, a1, ())
noncomputable def zfU (O : Oracle E1) (a0 : Yb) (a1 : Yb) : Option Ye := O.C 151 (a0, a1, ())
noncomputable def zc2 (O : Oracle E1) (a0 : Yb) (a1 : Yb) : Option Yc := O.C 118 (a0, a1, ())
noncomputable def zcH (O : Oracle E1) (a0 : Ym) (a1 : Int) (a2 : Int) : Option Yh := O.C 185 (a0, a1, a2, ())
noncomputable def zgC (O : Oracle E1) (a0 : Yb) (a1 : Yb) : Option Yc := O.C 194 (a0, a1, ())
noncomputable def zba (O : Oracle E1) (a0 : Ym) (a1 : Yg) : Option Ye := O.C 12779701 (a0, a1, ())
noncomputable def zad (O : Oracle E1) (a0 : Ym) (a1 : Yg) : Option Yc := O.C 12779687 (a0, a1, ())
noncomputable def zcJ (O : Oracle E1) (a0 : Ym) (a1 : Ym) : Option Yc := O.C 186 (a0, a1, ())
noncomputable def zeA (O : Oracle E1) (a0 : Yb) (a1 : Yb) : Option Yc := O.C 184 (a0, a1, ())
noncomputable def zM (O : Oracle E1) (a0 : Ym) (a1 : Yg) : Option Ye := O.C 12124341 (a0, a1, ())
noncomputable def zfW (O : Oracle E1) (a0 : Ym) (a1 : Ym) : Option Ye := O.C 173 (a0, a1, ())
noncomputable def ze1 (O : Oracle E1) (a0 : Ya) : Option Yh := O.C 174 (a0, ())
noncomputable def zgo (O : Oracle E1) (a0 : Ya) (a1 : Ya) : Option Ye := O.C 152 (a0, a1, ())
noncomputable def zbB (O : Oracle E1) (a0 : Yf) (a1 : Int) : Option Yc := O.C 119 (a0, a1, ())
noncomputable def za8 (O : Oracle E1) (a0 : Yg) (a1 : Yf) (a2 : Yf) (a3 : Int × Int × Int × Int × Int × Unit) : Option Yk := O.C 87 (a0, a1, a2, a3, ())
noncomputable def zcr (O : Oracle E1) (a0 : Yg) (a1 : Yf) (a2 : Int) : Option Yk := O.C 88 (a0, a1, a2, ())
noncomputable def zc1 (O : Oracle E1) (a0 : Yg) (a1 : Yf) (a2 : Int × Int × Int × Int × Int × Unit) : Option Yk := O.C 89 (a0, a1, a2, ())
noncomputable def zjB (O : Oracle E1) (a0 : Yf) : Option Yc := O.C 90 (a0, ())
noncomputable def ze9 (O : Oracle E1) (a0 : Yg) (a1 : Ym) (a2 : Yb) (a3 : Yb) : Option Yi := O.C 187 (a0, a1, a2, a3, ())
noncomputable def zim (O : Oracle E1) (a0 : Yb) (a1 : Int) : Option Yc := O.C 195 (a0, a1, ())
noncomputable def zlk (O : Oracle E1) (a0 : Ym) : Option Yh := O.C 188 (a0, ())
noncomputable def zbO (O : Oracle E1) (a0 : Yg) (a1 : Yb) (a2 : Yb) (a3 : Yb) : Option Yr := O.C 175 (a0, a1, a2, a3, ())
noncomputable def zfO (O : Oracle E1) (a0 : Yg) (a1 : Yb) (a2 : Yf) : Option Yn := O.C 153 (a0, a1, a2, ())
noncomputable def zc5 (O : Oracle E1) (a0 : Yg) (a1 : Yb) (a2 : Yf) : Option Yz := O.C 122 (a0, a1, a2, ())
noncomputable def zdr (O : Oracle E1) (a0 : Yg) (a1 : Yf) (a2 : Yf) : Option Yk := O.C 91 (a0, a1, a2, ())
noncomputable def zhF (O : Oracle E1) (a0 : Yg) (a1 : YE) (a2 : YJ) (a3 : Int) (a4 : Yb) (a5 : Yb) : Option Yl := O.C 63 (a0, a1, a2, a3, a4, a5, ())
noncomputable def zeN (O : Oracle E1) (a0 : Ya) (a1 : Ya) : Option Yc := O.C 93 (a0, a1, ())
noncomputable def zo (O : Oracle E1) (a0 : Yf) (a1 : Yf) (a2 : Unit) : Option Yc := O.C 6160476 (a0, a1, a2, ())
noncomputable def zfV (O : Oracle E1) (a0 : Yf) (a1 : Yf) : Option Yc := O.C 64 (a0, a1, ())
noncomputable def zeK (O : Oracle E1) (a0 : Yg) (a1 : YE) (a2 : YJ) (a3 : Yd) : Option Ye := O.C 39 (a0, a1, a2, a3, ())
noncomputable def zdw (O : Oracle E1) (a0 : Yg) (a1 : YE) (a2 : YJ) : Option YB := O.C 13 (a0, a1, a2, ())
noncomputable def zdG (O : Oracle E1) (a0 : Yb) (a1 : Yb) : Option Yc := O.C 21 (a0, a1, ())
noncomputable def zjx (O : Oracle E1) (a0 : Yg) (a1 : Yg) : Option Yc := O.C 14 (a0, a1, ())
noncomputable def zkm (O : Oracle E1) (a0 : Ya) (a1 : Ya) : Option Yc := O.C 65 (a0, a1, ())
noncomputable def zhT (O : Oracle E1) (a0 : Yf) (a1 : Yf) : Option Yc := O.C 40 (a0, a1, ())
noncomputable def ziQ (O : Oracle E1) (a0 : YE) (a1 : YE) : Option Yc := O.C 15 (a0, a1, ())
noncomputable def zjq (O : Oracle E1) (a0 : Yd) (a1 : Yd) : Option Yc := O.C 20 (a0, a1, ())
noncomputable def ziT (O : Oracle E1) (a0 : YJ) (a1 : YJ) : Option Yc := O.C 16 (a0, a1, ())
noncomputable def zdh (O : Oracle E1) (a0 : Yg) (a1 : YE) (a2 : YJ) : Option Yc := O.C 3 (a0, a1, a2, ())
noncomputable abbrev zqe : LoopH := { key := 244, ht := [0, 1, 5], hτ := (fs [yg, yc, yc]), ex := 0, ot := [1], oτ := (fs [yc]) }
noncomputable def zp2 : Code := Code.part (bodyOf 31) [1, 1, 1, 0, 1, 0, 0]
noncomputable def zfa (O : Oracle E1) (a0 : Yf) (a1 : Int) (a2 : Int) : Option Yu := O.L 31 zqe zp2 (a0, a1, a2, ())
noncomputable abbrev zpw : LoopH := { key := 244, ht := [0, 1, 5], hτ := (fs [yo, yc, yc]), ex := 0, ot := [1], oτ := (fs [yc]) }
noncomputable def zpf : Code := Code.part (bodyOf 7) [1, 1, 1, 0, 1, 0, 0]
noncomputable def zev (O : Oracle E1) (a0 : YE) (a1 : Int) (a2 : Int) : Option Yu := O.L 7 zpw zpf (a0, a1, a2, ())
noncomputable abbrev zpA : LoopH := { key := 244, ht := [0, 1, 5], hτ := (fs [ye, yc, yc]), ex := 0, ot := [1], oτ := (fs [yc]) }
noncomputable def zpq : Code := Code.part (bodyOf 8) [1, 1, 1, 0, 1, 0, 0]
noncomputable def zen (O : Oracle E1) (a0 : YJ) (a1 : Int) (a2 : Int) : Option Yu := O.L 8 zpA zpq (a0, a1, a2, ())
noncomputable abbrev zr0 : LoopH := { key := 56, ht := [1, 2, 3, 7], hτ := (fs [ya, yc, yj, yc]), ex := 0, ot := [2], oτ := (fs [yc]) }
noncomputable def zry : Code := Code.part (bodyOf 138) [1, 1, 0, 0, 0]
noncomputable def zdi (O : Oracle E1) (a0 : Yb) (a1 : Int) (a2 : Yg) (a3 : Int) : Option Yu := O.L 138 zr0 zry (a0, a1, a2, a3, ())
noncomputable abbrev zpt : LoopH := { key := 52, ht := [1, 2, 7, 8, 9], hτ := (fs [yg, yj, yg, yc, yc]), ex := 0, ot := [1], oτ := (fs [yg]) }
noncomputable def zpp : Code := Code.part (bodyOf 54) [1, 0, 1, 0, 0]
noncomputable def zaY (O : Oracle E1) (a0 : Yf) (a1 : Yg) (a2 : Yf) (a3 : Int) (a4 : Int) : Option ((Yf × Unit) ⊕ Yc) := O.L 54 zpt zpp (a0, a1, a2, a3, a4, ())
noncomputable abbrev zrH : LoopH := { key := 52, ht := [1, 2, 9, 10, 11], hτ := (fs [yc, yc, ya, yc, yc]), ex := 0, ot := [], oτ := (fs []) }
noncomputable def zrU : Code := Code.part (bodyOf 72) [1, 0, 1, 0, 0]
noncomputable def zgn (O : Oracle E1) (a0 : Int) (a1 : Int) (a2 : Yb) (a3 : Int) (a4 : Int) : Option Yq := O.L 72 zrH zrU (a0, a1, a2, a3, a4, ())
noncomputable abbrev zps : LoopH := { key := 52, ht := [1, 2, 7, 8, 9], hτ := (fs [yo, yj, yo, yc, yc]), ex := 0, ot := [1, 2], oτ := (fs [yo, yj]) }
noncomputable def zpo : Code := Code.part (bodyOf 33) [1, 0, 1, 0, 0]
noncomputable def zaA (O : Oracle E1) (a0 : YE) (a1 : Yg) (a2 : YE) (a3 : Int) (a4 : Int) : Option ((YE × Yg × Unit) ⊕ Yc) := O.L 33 zps zpo (a0, a1, a2, a3, a4, ())
noncomputable abbrev zrL : LoopH := { key := 52, ht := [1, 7, 8, 9], hτ := (fs [yc, ya, yc, yc]), ex := 0, ot := [], oτ := (fs []) }
noncomputable def zr1 : Code := Code.part (bodyOf 161) [1, 0, 1, 0, 0]
noncomputable def zeP (O : Oracle E1) (a0 : Int) (a1 : Yb) (a2 : Int) (a3 : Int) : Option Yq := O.L 161 zrL zr1 (a0, a1, a2, a3, ())
noncomputable abbrev zoU : LoopH := { key := 244, ht := [3, 4, 12, 13, 14], hτ := (fs [yf, yi, yk, yc, yc]), ex := 0, ot := [4], oτ := (fs [yi]) }
noncomputable def zoF : Code := Code.part (bodyOf 154) [1, 1, 1, 0, 1, 0, 0]
noncomputable def zdQ (O : Oracle E1) (a0 : Yb) (a1 : Ym) (a2 : Ym) (a3 : Int) (a4 : Int) : Option Yy := O.L 154 zoU zoF (a0, a1, a2, a3, a4, ())
noncomputable abbrev znu : LoopH := { key := 250676, ht := [3, 4, 7, 12, 13, 14, 18, 19, 20], hτ := (fs [yf, yi, yf, yk, yc, yc, ya, yc, yc]), ex := 2, ot := [3, 4, 7, 12, 13, 14], oτ := (fs [yf, yi, yf, yk, yc, yc]) }
noncomputable def zns : Code := Code.part (bodyOf 154) [1, 1, 1, 0, 1, 0, 0, 1, 1, 0, 0, 1, 1, 0, 1, 0, 0]
noncomputable def zbK (O : Oracle E1) (a0 : Yb) (a1 : Ym) (a2 : Yb) (a3 : Ym) (a4 : Int) (a5 : Int) (a6 : Yb) (a7 : Int) (a8 : Int) : Option ((Yb × Ym × Yb × Ym × Int × Int × Unit) ⊕ Yh) := O.L 154 znu zns (a0, a1, a2, a3, a4, a5, a6, a7, a8, ())
noncomputable abbrev zlU : LoopH := { key := 256693044, ht := [3, 4, 7, 9, 12, 13, 14, 18, 19, 20, 37, 38], hτ := (fs [yf, yi, yf, yc, yk, yc, yc, ya, yc, yc, yc, yc]), ex := 4, ot := [3, 4, 7, 9, 12, 13, 14, 18, 19, 20], oτ := (fs [yf, yi, yf, yc, yk, yc, yc, ya, yc, yc]), hal := [(36, 3)] }
noncomputable def zlL : Code := Code.part (bodyOf 154) [1, 1, 1, 0, 1, 0, 0, 1, 1, 0, 0, 1, 1, 0, 1, 0, 0, 1, 1, 0, 0, 1, 1, 0, 1, 0, 0]
noncomputable def zaU (O : Oracle E1) (a0 : Yb) (a1 : Ym) (a2 : Yb) (a3 : Int) (a4 : Ym) (a5 : Int) (a6 : Int) (a7 : Yb) (a8 : Int) (a9 : Int) (a10 : Int) (a11 : Int) : Option (YD ⊕ Yh) := O.L 154 zlU zlL (a0, a1, a2, a3, a4, a5, a6, a7, a8, a9, a10, a11, ())
noncomputable abbrev zpJ : LoopH := { key := 116, ht := [3, 6, 7, 8], hτ := (fs [yi, yg, yc, yc]), ex := 0, ot := [3], oτ := (fs [yi]) }
noncomputable def zqc : Code := Code.part (bodyOf 155) [1, 1, 0, 1, 0, 0]
noncomputable def ze8 (O : Oracle E1) (a0 : Ym) (a1 : Yf) (a2 : Int) (a3 : Int) : Option Yy := O.L 155 zpJ zqc (a0, a1, a2, a3, ())
noncomputable abbrev zoI : LoopH := { key := 244, ht := [3, 4, 10, 11, 12], hτ := (fs [yi, ym, yg, yc, yc]), ex := 0, ot := [4], oτ := (fs [ym]) }
noncomputable def zpa : Code := Code.part (bodyOf 124) [1, 1, 1, 0, 1, 0, 0]
noncomputable def zdN (O : Oracle E1) (a0 : Ym) (a1 : Yf) (a2 : Yf) (a3 : Int) (a4 : Int) : Option Yv := O.L 124 zoI zpa (a0, a1, a2, a3, a4, ())
noncomputable abbrev zrd : LoopH := { key := 116, ht := [0, 1, 12, 13], hτ := (fs [ya, ya, yc, yc]), ex := 0, ot := [], oτ := (fs []) }
noncomputable def zqY : Code := Code.part (bodyOf 102) [1, 1, 0, 1, 0, 0]
noncomputable def zfF (O : Oracle E1) (a0 : Yb) (a1 : Yb) (a2 : Int) (a3 : Int) : Option Yq := O.L 102 zrd zqY (a0, a1, a2, a3, ())
noncomputable abbrev zrT : LoopH := { key := 116, ht := [3, 6, 7, 8], hτ := (fs [ym, yg, yc, yc]), ex := 0, ot := [3], oτ := (fs [ym]) }
noncomputable def zrE : Code := Code.part (bodyOf 136) [1, 1, 0, 1, 0, 0]
noncomputable def zgg (O : Oracle E1) (a0 : Yf) (a1 : Yf) (a2 : Int) (a3 : Int) : Option Yv := O.L 136 zrT zrE (a0, a1, a2, a3, ())
noncomputable abbrev zq3 : LoopH := { key := 116, ht := [3, 9, 10, 11], hτ := (fs [ym, yg, yc, yc]), ex := 0, ot := [3], oτ := (fs [ym]) }
noncomputable def zqX : Code := Code.part (bodyOf 125) [1, 1, 0, 1, 0, 0]
noncomputable def zcL (O : Oracle E1) (a0 : Yf) (a1 : Yf) (a2 : Int) (a3 : Int) : Option Yv := O.L 125 zq3 zqX (a0, a1, a2, a3, ())
noncomputable abbrev zof : LoopH := { key := 239220, ht := [3, 5, 6, 9, 10, 11, 26, 27], hτ := (fs [ym, (.box yb), .bool, yg, yc, yc, yc, yc]), ex := 2, ot := [3, 5, 6, 9, 10, 11], oτ := (fs [ym, (.box yb), .bool, yg, yc, yc]), hal := [(25, 3)] }
noncomputable def zob : Code := Code.part (bodyOf 125) [1, 1, 0, 1, 0, 0, 1, 1, 0, 0, 1, 1, 1, 0, 1, 0, 0]
noncomputable def zbg (O : Oracle E1) (a0 : Yf) (a1 : Ya) (a2 : Bool) (a3 : Yf) (a4 : Int) (a5 : Int) (a6 : Int) (a7 : Int) : Option ((Yf × Ya × Bool × Yf × Int × Int × Unit) ⊕ Yj) := O.L 125 zof zob (a0, a1, a2, a3, a4, a5, a6, a7, ())
noncomputable abbrev zrJ : LoopH := { key := 56, ht := [0, 1, 5], hτ := (fs [yf, yc, yc]), ex := 0, ot := [0, 1, 5], oτ := (fs [yf, yc, yc]) }
noncomputable def zrS : Code := Code.part (bodyOf 190) [1, 1, 0, 0, 0]
noncomputable def zgm (O : Oracle E1) (a0 : Yb) (a1 : Int) (a2 : Int) : Option ((Yb × Int × Int × Unit) ⊕ Yo) := O.L 190 zrJ zrS (a0, a1, a2, ())
noncomputable abbrev zq0 : LoopH := { key := 116, ht := [3, 6, 7, 8], hτ := (fs [yf, ya, yc, yc]), ex := 0, ot := [3], oτ := (fs [yf]) }
noncomputable def zqN : Code := Code.part (bodyOf 189) [1, 1, 0, 1, 0, 0]
noncomputable def zfA (O : Oracle E1) (a0 : Yb) (a1 : Yb) (a2 : Int) (a3 : Int) : Option YF := O.L 189 zq0 zqN (a0, a1, a2, a3, ())
noncomputable abbrev zrh : LoopH := { key := 116, ht := [3, 8, 9, 10], hτ := (fs [yf, yg, yc, yc]), ex := 0, ot := [3], oτ := (fs [yf]) }
noncomputable def zqO : Code := Code.part (bodyOf 176) [1, 1, 0, 1, 0, 0]
noncomputable def zfx (O : Oracle E1) (a0 : Yb) (a1 : Yf) (a2 : Int) (a3 : Int) : Option YF := O.L 176 zrh zqO (a0, a1, a2, a3, ())
noncomputable abbrev zo3 : LoopH := { key := 29900, ht := [3, 8, 9, 10, 20, 21, 22], hτ := (fs [yf, yg, yc, yc, yf, yc, yc]), ex := 2, ot := [3, 8, 9, 10], oτ := (fs [yf, yg, yc, yc]) }
noncomputable def zo9 : Code := Code.part (bodyOf 176) [1, 1, 0, 1, 0, 0, 1, 1, 0, 0, 1, 1, 0, 0]
noncomputable def zcu (O : Oracle E1) (a0 : Yb) (a1 : Yf) (a2 : Int) (a3 : Int) (a4 : Yb) (a5 : Int) (a6 : Int) : Option ((Yb × Yf × Int × Int × Unit) ⊕ Yo) := O.L 176 zo3 zo9 (a0, a1, a2, a3, a4, a5, a6, ())
noncomputable abbrev zpV : LoopH := { key := 116, ht := [1, 5, 11, 12], hτ := (fs [yc, yf, yc, yc]), ex := 0, ot := [5], oτ := (fs [yf]), hal := [(10, 5)] }
noncomputable def zqA : Code := Code.part (bodyOf 158) [1, 1, 0, 1, 0, 0]
noncomputable def ze0 (O : Oracle E1) (a0 : Int) (a1 : Yb) (a2 : Int) (a3 : Int) : Option YF := O.L 158 zpV zqA (a0, a1, a2, a3, ())
noncomputable abbrev zpx : LoopH := { key := 244, ht := [3, 8, 9, 14, 15, 16], hτ := (fs [yj, yc, ym, yg, yc, yc]), ex := 0, ot := [3, 9], oτ := (fs [yj, ym]) }
noncomputable def zpi : Code := Code.part (bodyOf 128) [1, 1, 1, 0, 1, 0, 0]
noncomputable def zem (O : Oracle E1) (a0 : Yg) (a1 : Int) (a2 : Yf) (a3 : Yf) (a4 : Int) (a5 : Int) : Option ((Yg × Yf × Unit) ⊕ Yl) := O.L 128 zpx zpi (a0, a1, a2, a3, a4, a5, ())
noncomputable abbrev zqo : LoopH := { key := 116, ht := [0, 5, 8, 9, 10], hτ := (fs [yk, yf, ya, yc, yc]), ex := 0, ot := [5], oτ := (fs [yf]) }
noncomputable def zqs : Code := Code.part (bodyOf 132) [1, 1, 0, 1, 0, 0]
noncomputable def zdx (O : Oracle E1) (a0 : Ym) (a1 : Yb) (a2 : Yb) (a3 : Int) (a4 : Int) : Option YF := O.L 132 zqo zqs (a0, a1, a2, a3, a4, ())
noncomputable abbrev zqh : LoopH := { key := 52, ht := [2, 3, 4, 11, 12, 13], hτ := (fs [ya, ya, yj, yk, yc, yc]), ex := 0, ot := [2, 3, 4], oτ := (fs [ya, ya, yj]) }
noncomputable def zpU : Code := Code.part (bodyOf 160) [1, 0, 1, 0, 0]
noncomputable def zdy (O : Oracle E1) (a0 : Yb) (a1 : Yb) (a2 : Yg) (a3 : Ym) (a4 : Int) (a5 : Int) : Option ((Yb × Yb × Yg × Unit) ⊕ Yc) := O.L 160 zqh zpU (a0, a1, a2, a3, a4, a5, ())
noncomputable abbrev zqC : LoopH := { key := 500, ht := [0, 1, 2, 7, 8, 17, 18], hτ := (fs [yk, yc, ya, yi, yi, yc, yc]), ex := 0, ot := [1, 2, 8], oτ := (fs [yc, ya, yi]) }
noncomputable def zqa : Code := Code.part (bodyOf 162) [1, 1, 1, 1, 0, 1, 0, 0]
noncomputable def ze2 (O : Oracle E1) (a0 : Ym) (a1 : Int) (a2 : Yb) (a3 : Ym) (a4 : Ym) (a5 : Int) (a6 : Int) : Option ((Int × Yb × Ym × Unit) ⊕ Yh) := O.L 162 zqC zqa (a0, a1, a2, a3, a4, a5, a6, ())
noncomputable abbrev zp5 : LoopH := { key := 60, ht := [1, 2, 3, 8, 9, 10], hτ := (fs [ya, ya, yj, yi, yf, yf]), ex := 999, ot := [], oτ := (fs []) }
noncomputable def zp7 : Code := Code.part (bodyOf 129) [1, 1, 1, 0, 0]
noncomputable def zau (O : Oracle E1) (a0 : Yb) (a1 : Yb) (a2 : Yg) (a3 : Ym) (a4 : Yb) (a5 : Yb) : Option ((Unit) ⊕ Yi) := O.L 129 zp5 zp7 (a0, a1, a2, a3, a4, a5, ())
noncomputable abbrev zo7 : LoopH := { key := 3864, ht := [1, 2, 3, 8, 9, 10, 11], hτ := (fs [ya, ya, yj, yi, yf, yf, yc]), ex := 2, ot := [1, 2, 3, 8, 9, 10, 11], oτ := (fs [ya, ya, yj, yi, yf, yf, yc]) }
noncomputable def zoT : Code := Code.part (bodyOf 129) [1, 1, 1, 0, 0, 0, 1, 1, 0, 0, 0]
noncomputable def zdS (O : Oracle E1) (a0 : Yb) (a1 : Yb) (a2 : Yg) (a3 : Ym) (a4 : Yb) (a5 : Yb) (a6 : Int) : Option ((Yb × Yb × Yg × Ym × Yb × Yb × Int × Unit) ⊕ Yi) := O.L 129 zo7 zoT (a0, a1, a2, a3, a4, a5, a6, ())
noncomputable abbrev zqB : LoopH := { key := 116, ht := [0, 5, 8, 9, 10], hτ := (fs [yk, ym, yg, yc, yc]), ex := 0, ot := [5], oτ := (fs [ym]) }
noncomputable def zqq : Code := Code.part (bodyOf 131) [1, 1, 0, 1, 0, 0]
noncomputable def ze3 (O : Oracle E1) (a0 : Ym) (a1 : Yf) (a2 : Yf) (a3 : Int) (a4 : Int) : Option Yv := O.L 131 zqB zqq (a0, a1, a2, a3, a4, ())
noncomputable abbrev zpX : LoopH := { key := 116, ht := [1, 5, 8, 9, 10], hτ := (fs [yc, yc, ya, yc, yc]), ex := 0, ot := [5], oτ := (fs [yc]) }
noncomputable def zpW : Code := Code.part (bodyOf 196) [1, 1, 0, 1, 0, 0]
noncomputable def ze4 (O : Oracle E1) (a0 : Int) (a1 : Int) (a2 : Yb) (a3 : Int) (a4 : Int) : Option Yu := O.L 196 zpX zpW (a0, a1, a2, a3, a4, ())
noncomputable abbrev zpr : LoopH := { key := 52, ht := [0, 1, 8, 9, 10], hτ := (fs [ya, ya, yf, yc, yc]), ex := 0, ot := [], oτ := (fs []) }
noncomputable def zpy : Code := Code.part (bodyOf 191) [1, 0, 1, 0, 0]
noncomputable def zer (O : Oracle E1) (a0 : Yb) (a1 : Yb) (a2 : Yb) (a3 : Int) (a4 : Int) : Option Yq := O.L 191 zpr zpy (a0, a1, a2, a3, a4, ())
noncomputable abbrev zoj : LoopH := { key := 244, ht := [0, 1, 23, 24], hτ := (fs [ya, ya, yc, yc]), ex := 0, ot := [], oτ := (fs []) }
noncomputable def zoc : Code := Code.part (bodyOf 177) [1, 1, 1, 0, 1, 0, 0]
noncomputable def zdl (O : Oracle E1) (a0 : Yb) (a1 : Yb) (a2 : Int) (a3 : Int) : Option Yq := O.L 177 zoj zoc (a0, a1, a2, a3, ())
noncomputable abbrev zql : LoopH := { key := 244, ht := [5, 6, 16, 17, 18], hτ := (fs [yi, yi, yk, yc, yc]), ex := 0, ot := [6], oτ := (fs [yi]) }
noncomputable def zqn : Code := Code.part (bodyOf 178) [1, 1, 1, 0, 1, 0, 0]
noncomputable def zfb (O : Oracle E1) (a0 : Ym) (a1 : Ym) (a2 : Ym) (a3 : Int) (a4 : Int) : Option Yy := O.L 178 zql zqn (a0, a1, a2, a3, a4, ())
noncomputable abbrev zoq : LoopH := { key := 250676, ht := [5, 6, 8, 9, 16, 17, 18, 23, 24], hτ := (fs [yi, yi, ya, yc, yk, yc, yc, yc, yc]), ex := 2, ot := [5, 6, 8, 9, 16, 17, 18], oτ := (fs [yi, yi, ya, yc, yk, yc, yc]), hal := [(22, 5)] }
noncomputable def zok : Code := Code.part (bodyOf 178) [1, 1, 1, 0, 1, 0, 0, 1, 1, 0, 0, 1, 1, 0, 1, 0, 0]
noncomputable def zdd (O : Oracle E1) (a0 : Ym) (a1 : Ym) (a2 : Yb) (a3 : Int) (a4 : Ym) (a5 : Int) (a6 : Int) (a7 : Int) (a8 : Int) : Option (YK ⊕ Yh) := O.L 178 zoq zok (a0, a1, a2, a3, a4, a5, a6, a7, a8, ())
noncomputable abbrev zrc : LoopH := { key := 52, ht := [0, 10, 11, 12], hτ := (fs [yk, yk, yc, yc]), ex := 0, ot := [0], oτ := (fs [yk]) }
noncomputable def zqR : Code := Code.part (bodyOf 179) [1, 0, 1, 0, 0]
noncomputable def zfJ (O : Oracle E1) (a0 : Ym) (a1 : Ym) (a2 : Int) (a3 : Int) : Option ((Ym × Unit) ⊕ Yc) := O.L 179 zrc zqR (a0, a1, a2, a3, ())
noncomputable abbrev zoG : LoopH := { key := 54068, ht := [0, 6, 7, 10, 11, 12, 16, 17, 18], hτ := (fs [yk, ya, .bool, yk, yc, yc, yk, yc, yc]), ex := 2, ot := [0, 7, 10, 11, 12], oτ := (fs [yk, .bool, yk, yc, yc]) }
noncomputable def zoN : Code := Code.part (bodyOf 179) [1, 0, 1, 0, 0, 1, 1, 0, 0, 1, 1, 0, 1, 0, 0]
noncomputable def zct (O : Oracle E1) (a0 : Ym) (a1 : Yb) (a2 : Bool) (a3 : Ym) (a4 : Int) (a5 : Int) (a6 : Ym) (a7 : Int) (a8 : Int) : Option ((Ym × Bool × Ym × Int × Int × Unit) ⊕ Yc) := O.L 179 zoG zoN (a0, a1, a2, a3, a4, a5, a6, a7, a8, ())
noncomputable abbrev zoA : LoopH := { key := 52, ht := [0, 1, 7, 8, 9], hτ := (fs [yg, yc, yg, yc, yc]), ex := 0, ot := [], oτ := (fs []) }
noncomputable def zoL : Code := Code.part (bodyOf 135) [1, 0, 1, 0, 0]
noncomputable def zcx (O : Oracle E1) (a0 : Yf) (a1 : Int) (a2 : Yf) (a3 : Int) (a4 : Int) : Option Yq := O.L 135 zoA zoL (a0, a1, a2, a3, a4, ())
noncomputable abbrev znV : LoopH := { key := 262132, ht := [4, 7, 10, 14, 15, 16, 17, 18, 19, 20, 128, 129], hτ := yp, ex := 0, ot := [4, 7, 10, 14, 15, 16, 17, 18, 19, 20], oτ := yt, hal := [(127, 18)] }
noncomputable def znU : Code := Code.part (bodyOf 96) [1, 1, 1, 1, 1, 1, 1, 1, 1, 1, 1, 1, 1, 0, 1, 0, 0]
noncomputable def zcS (O : Oracle E1) (a0 : Yg) (a1 : Int × Int × Int × Int × Int × Unit) (a2 : Yb) (a3 : Yb) (a4 : Yb) (a5 : Yb) (a6 : Ym) (a7 : Yf) (a8 : Yf) (a9 : Yf) (a10 : Int) (a11 : Int) : Option (Yp ⊕ Yk) := O.L 96 znV znU (a0, a1, a2, a3, a4, a5, a6, a7, a8, a9, a10, a11, ())
noncomputable abbrev zn5 : LoopH := { key := 524276, ht := [4, 7, 10, 14, 15, 16, 17, 18, 19, 20, 144, 145], hτ := yp, ex := 2, ot := [4, 7, 10, 14, 15, 16, 17, 18, 19, 20], oτ := yt, hal := [(143, 19)] }
noncomputable def znG : Code := Code.part (bodyOf 96) [1, 1, 1, 1, 1, 1, 1, 1, 1, 1, 1, 1, 1, 1, 0, 1, 0, 0]
noncomputable def zcT (O : Oracle E1) (a0 : Yg) (a1 : Int × Int × Int × Int × Int × Unit) (a2 : Yb) (a3 : Yb) (a4 : Yb) (a5 : Yb) (a6 : Ym) (a7 : Yf) (a8 : Yf) (a9 : Yf) (a10 : Int) (a11 : Int) : Option (Yp ⊕ Yk) := O.L 96 zn5 znG (a0, a1, a2, a3, a4, a5, a6, a7, a8, a9, a10, a11, ())
noncomputable abbrev zpE : LoopH := { key := 56, ht := [1, 2, 3, 4, 10, 11], hτ := (fs [yi, ya, ya, yj, yc, yc]), ex := 0, ot := [1], oτ := (fs [yi]) }
noncomputable def zp0 : Code := Code.part (bodyOf 192) [1, 1, 0, 0, 0]
noncomputable def zaQ (O : Oracle E1) (a0 : Ym) (a1 : Yb) (a2 : Yb) (a3 : Yg) (a4 : Int) (a5 : Int) : Option ((Ym × Unit) ⊕ Yi) := O.L 192 zpE zp0 (a0, a1, a2, a3, a4, a5, ())
noncomputable abbrev zrw : LoopH := { key := 500, ht := [1, 12, 29, 30, 31], hτ := (fs [ya, yf, yf, yc, yc]), ex := 0, ot := [1, 12], oτ := (fs [ya, yf]) }
noncomputable def zrX : Code := Code.part (bodyOf 180) [1, 1, 1, 1, 0, 1, 0, 0]
noncomputable def zgv (O : Oracle E1) (a0 : Yb) (a1 : Yb) (a2 : Yb) (a3 : Int) (a4 : Int) : Option ((Yb × Yb × Unit) ⊕ Yr) := O.L 180 zrw zrX (a0, a1, a2, a3, a4, ())
noncomputable abbrev zq7 : LoopH := { key := 52, ht := [1, 2, 3, 10], hτ := (fs [ya, yg, yj, yc]), ex := 0, ot := [], oτ := (fs []) }
noncomputable def zqQ : Code := Code.part (bodyOf 166) [1, 0, 1, 0, 0]
noncomputable def zcO (O : Oracle E1) (a0 : Yb) (a1 : Yf) (a2 : Yg) (a3 : Int) : Option ((Unit) ⊕ Yn) := O.L 166 zq7 zqQ (a0, a1, a2, a3, ())
noncomputable abbrev zph : LoopH := { key := 6732, ht := [1, 2, 3, 10, 11, 30, 31, 32], hτ := (fs [ya, yg, yj, yc, yf, yg, yc, yc]), ex := 2, ot := [1, 2, 3, 10], oτ := (fs [ya, yg, yj, yc]) }
noncomputable def zpz : Code := Code.part (bodyOf 166) [1, 0, 1, 0, 0, 1, 0, 0, 1, 1, 0, 0]
noncomputable def zb8 (O : Oracle E1) (a0 : Yb) (a1 : Yf) (a2 : Yg) (a3 : Int) (a4 : Yb) (a5 : Yf) (a6 : Int) (a7 : Int) : Option YH := O.L 166 zph zpz (a0, a1, a2, a3, a4, a5, a6, a7, ())
noncomputable abbrev zom : LoopH := { key := 1723596, ht := [1, 2, 3, 10, 11, 12, 13, 14, 30, 31, 32], hτ := (fs [ya, yg, yj, yc, yf, yc, (.box yb), yc, yg, yc, yc]), ex := 4, ot := [1, 2, 3, 10, 11, 30, 31, 32], oτ := (fs [ya, yg, yj, yc, yf, yg, yc, yc]) }
noncomputable def zor : Code := Code.part (bodyOf 166) [1, 0, 1, 0, 0, 1, 0, 0, 1, 1, 0, 0, 1, 1, 0, 0, 1, 1, 0, 0]
noncomputable def zbD (O : Oracle E1) (a0 : Yb) (a1 : Yf) (a2 : Yg) (a3 : Int) (a4 : Yb) (a5 : Int) (a6 : Ya) (a7 : Int) (a8 : Yf) (a9 : Int) (a10 : Int) : Option YA := O.L 166 zom zor (a0, a1, a2, a3, a4, a5, a6, a7, a8, a9, a10, ())
noncomputable abbrev zpC : LoopH := { key := 60, ht := [2, 3, 8, 9], hτ := (fs [yg, yj, yf, yc]), ex := 999, ot := [], oτ := (fs []) }
noncomputable def zpn : Code := Code.part (bodyOf 137) [1, 1, 1, 0, 0]
noncomputable def zel (O : Oracle E1) (a0 : Yf) (a1 : Yg) (a2 : Yb) (a3 : Int) : Option ((Unit) ⊕ Yz) := O.L 137 zpC zpn (a0, a1, a2, a3, ())
noncomputable abbrev zoE : LoopH := { key := 244, ht := [2, 3, 8, 9, 16, 17, 18], hτ := (fs [yg, yj, ym, yc, yg, yc, yc]), ex := 0, ot := [8, 9], oτ := (fs [ym, yc]) }
noncomputable def zo5 : Code := Code.part (bodyOf 100) [1, 1, 1, 0, 1, 0, 0]
noncomputable def zdT (O : Oracle E1) (a0 : Yf) (a1 : Yg) (a2 : Yf) (a3 : Int) (a4 : Yf) (a5 : Int) (a6 : Int) : Option ((Yf × Int × Unit) ⊕ Yk) := O.L 100 zoE zo5 (a0, a1, a2, a3, a4, a5, a6, ())
noncomputable abbrev zq2 : LoopH := { key := 116, ht := [1, 2, 3, 5, 6, 14, 28, 29, 30], hτ := (fs [yo, ye, yc, ya, yj, (.own yg), ya, yc, yc]), ex := 0, ot := [1, 3, 5, 6, 14], oτ := (fs [yo, yc, ya, yj, (.own yg)]) }
noncomputable def zq5 : Code := Code.part (bodyOf 66) [1, 1, 0, 1, 0, 0]
noncomputable def zfy (O : Oracle E1) (a0 : YE) (a1 : YJ) (a2 : Int) (a3 : Yb) (a4 : Yg) (a5 : YE) (a6 : Yb) (a7 : Int) (a8 : Int) : Option ((YE × Int × Yb × Yg × YE × Unit) ⊕ Yl) := O.L 66 zq2 zq5 (a0, a1, a2, a3, a4, a5, a6, a7, a8, ())
noncomputable abbrev zn0 : LoopH := { key := 8290260, ht := [6, 14, 25, 196, 197, 198], hτ := (fs [yj, yo, ym, yo, yc, yc]), ex := 3, ot := [6, 14, 25], oτ := (fs [yj, yo, ym]) }
noncomputable def znM : Code := Code.part (bodyOf 66) [1, 1, 1, 1, 1, 0, 0, 1, 1, 1, 1, 1, 1, 1, 1, 1, 0, 1, 0, 1, 0, 0]
noncomputable def zc4 (O : Oracle E1) (a0 : Yg) (a1 : YE) (a2 : Yf) (a3 : YE) (a4 : Int) (a5 : Int) : Option ((Yg × YE × Yf × Unit) ⊕ Yl) := O.L 66 zn0 znM (a0, a1, a2, a3, a4, a5, ())
noncomputable abbrev zn6 : LoopH := { key := 116, ht := [0, 1, 12, 13], hτ := (fs [yg, yg, yc, yc]), ex := 0, ot := [], oτ := (fs []) }
noncomputable def zoh : Code := Code.part (bodyOf 77) [1, 1, 0, 1, 0, 0]
noncomputable def zdn (O : Oracle E1) (a0 : Yf) (a1 : Yf) (a2 : Int) (a3 : Int) : Option Yq := O.L 77 zn6 zoh (a0, a1, a2, a3, ())
noncomputable abbrev zqy : LoopH := { key := 116, ht := [1, 2, 3, 14, 15], hτ := (fs [yo, ye, yj, yc, yc]), ex := 0, ot := [], oτ := (fs []) }
noncomputable def zqf : Code := Code.part (bodyOf 34) [1, 1, 0, 1, 0, 0]
noncomputable def zck (O : Oracle E1) (a0 : YE) (a1 : YJ) (a2 : Yg) (a3 : Int) (a4 : Int) : Option ((Unit) ⊕ ((Int × Int × Unit) × (Unit))) := O.L 34 zqy zqf (a0, a1, a2, a3, a4, ())
noncomputable abbrev zrf : LoopH := { key := 116, ht := [0, 3, 4], hτ := (fs [ya, yf, yc]), ex := 0, ot := [3], oτ := (fs [yf]) }
noncomputable def zrg : Code := Code.part (bodyOf 18) [1, 1, 0, 1, 0, 0]
noncomputable def zfH (O : Oracle E1) (a0 : Yb) (a1 : Yb) (a2 : Int) : Option YF := O.L 18 zrf zrg (a0, a1, a2, ())
noncomputable abbrev zq4 : LoopH := { key := 116, ht := [0, 3, 4], hτ := (fs [yg, yh, yc]), ex := 0, ot := [3], oτ := (fs [yh]) }
noncomputable def zqZ : Code := Code.part (bodyOf 35) [1, 1, 0, 1, 0, 0]
noncomputable def zfB (O : Oracle E1) (a0 : Yf) (a1 : Yf) (a2 : Int) : Option Yv := O.L 35 zq4 zqZ (a0, a1, a2, ())
noncomputable abbrev zpN : LoopH := { key := 116, ht := [0, 3, 4], hτ := (fs [yo, (.own yh), yc]), ex := 0, ot := [3], oτ := (fs [(.own yh)]) }
noncomputable def zpO : Code := Code.part (bodyOf 11) [1, 1, 0, 1, 0, 0]
noncomputable def ze5 (O : Oracle E1) (a0 : YE) (a1 : YE) (a2 : Int) : Option ((YE × Unit) ⊕ ((YE × Unit) × (Unit))) := O.L 11 zpN zpO (a0, a1, a2, ())
noncomputable abbrev zqj : LoopH := { key := 116, ht := [0, 3, 4], hτ := (fs [ye, (.own ys), yc]), ex := 0, ot := [3], oτ := (fs [(.own ys)]) }
noncomputable def zp3 : Code := Code.part (bodyOf 12) [1, 1, 0, 1, 0, 0]
noncomputable def ze7 (O : Oracle E1) (a0 : YJ) (a1 : YJ) (a2 : Int) : Option ((YJ × Unit) ⊕ ((YJ × Unit) × (Unit))) := O.L 12 zqj zp3 (a0, a1, a2, ())
noncomputable abbrev zf2 : LoopH := { key := 52, ht := [0, 1, 7, 8], hτ := (fs [ya, (.fn 59 (fs [])), yc, yc]), ex := 0, ot := [], oτ := (fs []) }
noncomputable def zf1 : Code := Code.part (bodyOf 78) [1, 0, 1, 0, 0]
noncomputable def zW (O : Oracle E1) (a0 : Yb) (a1 : Unit) (a2 : Int) (a3 : Int) : Option Yw := O.L 3932238 zf2 zf1 (a0, a1, a2, a3, ())
noncomputable abbrev znr : LoopH := { key := 244, ht := [2, 5, 11, 12, 13], hτ := (fs [yj, yc, ya, yc, yc]), ex := 0, ot := [5], oτ := (fs [yc]) }
noncomputable def znv : Code := Code.part (bodyOf 104) [1, 1, 1, 0, 1, 0, 0]
noncomputable def zbk (O : Oracle E1) (a0 : Yg) (a1 : Int) (a2 : Yb) (a3 : Int) (a4 : Int) : Option ((Int × Unit) ⊕ Yc) := O.L 104 znr znv (a0, a1, a2, a3, a4, ())
noncomputable abbrev zda : LoopH := { key := 52, ht := [0, 1, 7, 8], hτ := (fs [yg, (.fn 81 yq), yc, yc]), ex := 0, ot := [], oτ := (fs []) }
noncomputable def zc9 : Code := Code.part (bodyOf 103) [1, 0, 1, 0, 0]
noncomputable def zq (O : Oracle E1) (a0 : Yf) (a1 : Yg × Unit) (a2 : Int) (a3 : Int) : Option Yw := O.L 5374055 zda zc9 (a0, a1, a2, a3, ())
noncomputable abbrev zcy : LoopH := { key := 52, ht := [0, 1, 7, 8], hτ := (fs [yo, (.fn 61 yq), yc, yc]), ex := 0, ot := [], oτ := (fs []) }
noncomputable def zcz : Code := Code.part (bodyOf 79) [1, 0, 1, 0, 0]
noncomputable def zi (O : Oracle E1) (a0 : YE) (a1 : Yg × Unit) (a2 : Int) (a3 : Int) : Option Yw := O.L 4063311 zcy zcz (a0, a1, a2, a3, ())
noncomputable abbrev zgL : LoopH := { key := 52, ht := [0, 1, 7, 8], hτ := (fs [ya, (.fn 70 (fs [(.ptr ye)])), yc, yc]), ex := 0, ot := [], oτ := (fs []) }
noncomputable def zgJ : Code := Code.part (bodyOf 78) [1, 0, 1, 0, 0]
noncomputable def z9 (O : Oracle E1) (a0 : Yb) (a1 : YJ × Unit) (a2 : Int) (a3 : Int) : Option Yw := O.L 4653134 zgL zgJ (a0, a1, a2, a3, ())
noncomputable abbrev zqp : LoopH := { key := 116, ht := [3, 6, 7, 8], hτ := (fs [yi, yg, yc, yc]), ex := 0, ot := [3], oτ := (fs [yi]) }
noncomputable def zp4 : Code := Code.part (bodyOf 121) [1, 1, 0, 1, 0, 0]
noncomputable def zfg (O : Oracle E1) (a0 : Ym) (a1 : Yf) (a2 : Int) (a3 : Int) : Option Yy := O.L 121 zqp zp4 (a0, a1, a2, a3, ())
noncomputable abbrev zqF : LoopH := { key := 244, ht := [3, 4, 15, 16, 17], hτ := (fs [(.map yc), (.own yf), yk, yc, yc]), ex := 0, ot := [4], oτ := (fs [(.own yf)]) }
noncomputable def zpI : Code := Code.part (bodyOf 140) [1, 1, 1, 0, 1, 0, 0]
noncomputable def zfc (O : Oracle E1) (a0 : List (Int × Int)) (a1 : Ym) (a2 : Ym) (a3 : Int) (a4 : Int) : Option Yy := O.L 140 zqF zpI (a0, a1, a2, a3, a4, ())
noncomputable abbrev zoC : LoopH := { key := 125340, ht := [3, 4, 5, 15, 16, 17, 27, 28, 29], hτ := (fs [(.map yc), (.own yf), yc, yk, yc, yc, ya, yc, yc]), ex := 2, ot := [3, 4, 15, 16, 17], oτ := (fs [(.map yc), (.own yf), yk, yc, yc]) }
noncomputable def zo4 : Code := Code.part (bodyOf 140) [1, 1, 1, 0, 1, 0, 0, 1, 1, 0, 0, 1, 1, 1, 0, 0]
noncomputable def zdO (O : Oracle E1) (a0 : List (Int × Int)) (a1 : Ym) (a2 : Int) (a3 : Ym) (a4 : Int) (a5 : Int) (a6 : Yb) (a7 : Int) (a8 : Int) : Option (YC ⊕ Yh) := O.L 140 zoC zo4 (a0, a1, a2, a3, a4, a5, a6, a7, a8, ())
noncomputable abbrev zlR : LoopH := { key := 116, ht := [0, 1, 12, 13], hτ := (fs [ya, ya, yc, yc]), ex := 0, ot := [], oτ := (fs []) }
noncomputable def zme : Code := Code.part (bodyOf 94) [1, 1, 0, 1, 0, 0]
noncomputable def zbU (O : Oracle E1) (a0 : Yb) (a1 : Yb) (a2 : Int) (a3 : Int) : Option Yq := O.L 94 zlR zme (a0, a1, a2, a3, ())
noncomputable abbrev zey : LoopH := { key := 52, ht := [0, 1, 7, 8], hτ := (fs [yg, (.fn 141 (fs [(.ptr yb)])), yc, yc]), ex := 0, ot := [], oτ := (fs []) }
noncomputable def zex : Code := Code.part (bodyOf 103) [1, 0, 1, 0, 0]
noncomputable def zI (O : Oracle E1) (a0 : Yf) (a1 : Ya × Unit) (a2 : Int) (a3 : Int) : Option Yw := O.L 9306215 zey zex (a0, a1, a2, a3, ())
noncomputable abbrev zsO : LoopH := { key := 116, ht := [3, 6, 7, 8], hτ := (fs [ym, yg, yc, yc]), ex := 0, ot := [3], oτ := (fs [ym]) }
noncomputable def zsl : Code := Code.part (bodyOf 106) [1, 1, 0, 1, 0, 0]
noncomputable def zd1 (O : Oracle E1) (a0 : Yf) (a1 : Yf) (a2 : Int) (a3 : Int) : Option Yv := O.L 106 zsO zsl (a0, a1, a2, a3, ())
noncomputable abbrev zlS : LoopH := { key := 52, ht := [0, 1, 7, 8], hτ := (fs [ya, yc, yc, yc]), ex := 0, ot := [], oτ := (fs []) }
noncomputable def zlM : Code := Code.part (bodyOf 170) [1, 0, 1, 0, 0]
noncomputable def zbS (O : Oracle E1) (a0 : Yb) (a1 : Int) (a2 : Int) (a3 : Int) : Option Yw := O.L 170 zlS zlM (a0, a1, a2, a3, ())
noncomputable abbrev zfG : LoopH := { key := 52, ht := [0, 1, 7, 8], hτ := (fs [yk, (.fn 168 (fs [(.ptr yc)])), yc, yc]), ex := 0, ot := [], oτ := (fs []) }
noncomputable def zfC : Code := Code.part (bodyOf 181) [1, 0, 1, 0, 0]
noncomputable def zU (O : Oracle E1) (a0 : Ym) (a1 : Int × Unit) (a2 : Int) (a3 : Int) : Option Yw := O.L 11075765 zfG zfC (a0, a1, a2, a3, ())
noncomputable abbrev zqW : LoopH := { key := 116, ht := [0, 3, 5], hτ := (fs [yk, yf, yc]), ex := 0, ot := [3], oτ := (fs [yf]) }
noncomputable def zq8 : Code := Code.part (bodyOf 144) [1, 1, 0, 1, 0, 0]
noncomputable def zfw (O : Oracle E1) (a0 : Ym) (a1 : Yb) (a2 : Int) : Option YF := O.L 144 zqW zq8 (a0, a1, a2, ())
noncomputable abbrev zrY : LoopH := { key := 116, ht := [1, 5, 11, 12], hτ := (fs [yc, yf, yc, yc]), ex := 0, ot := [5], oτ := (fs [yf]), hal := [(10, 5)] }
noncomputable def zrM : Code := Code.part (bodyOf 145) [1, 1, 0, 1, 0, 0]
noncomputable def zgr (O : Oracle E1) (a0 : Int) (a1 : Yb) (a2 : Int) (a3 : Int) : Option YF := O.L 145 zrY zrM (a0, a1, a2, a3, ())
noncomputable abbrev zeg : LoopH := { key := 52, ht := [0, 1, 7, 8], hτ := (fs [yk, (.fn 169 yq), yc, yc]), ex := 0, ot := [], oτ := (fs []) }
noncomputable def zd6 : Code := Code.part (bodyOf 181) [1, 0, 1, 0, 0]
noncomputable def zD (O : Oracle E1) (a0 : Ym) (a1 : Yg × Unit) (a2 : Int) (a3 : Int) : Option Yw := O.L 11141301 zeg zd6 (a0, a1, a2, a3, ())
noncomputable abbrev znH : LoopH := { key := 500, ht := [2, 3, 8, 10, 29, 30], hτ := (fs [yg, yj, yc, yu, yc, yc]), ex := 0, ot := [2, 3, 10], oτ := (fs [yg, yj, yu]), hal := [(28, 10)] }
noncomputable def znS : Code := Code.part (bodyOf 110) [1, 1, 1, 1, 0, 1, 0, 0]
noncomputable def zbZ (O : Oracle E1) (a0 : Yf) (a1 : Yg) (a2 : Int) (a3 : List Yt) (a4 : Int) (a5 : Int) : Option ((Yf × Yg × (List Yt) × Unit) ⊕ Yl) := O.L 110 znH znS (a0, a1, a2, a3, a4, a5, ())
noncomputable abbrev zpl : LoopH := { key := 52, ht := [1, 2, 3, 7], hτ := (fs [ya, yc, yj, yc]), ex := 0, ot := [2], oτ := (fs [yc]) }
noncomputable def zpD : Code := Code.part (bodyOf 148) [1, 0, 1, 0, 0]
noncomputable def zeo (O : Oracle E1) (a0 : Yb) (a1 : Int) (a2 : Yg) (a3 : Int) : Option Yu := O.L 148 zpl zpD (a0, a1, a2, a3, ())
noncomputable abbrev zrV : LoopH := { key := 116, ht := [0, 6, 9, 10, 11], hτ := (fs [yk, yf, ya, yc, yc]), ex := 0, ot := [6], oτ := (fs [yf]) }
noncomputable def zrC : Code := Code.part (bodyOf 114) [1, 1, 0, 1, 0, 0]
noncomputable def zeO (O : Oracle E1) (a0 : Ym) (a1 : Yb) (a2 : Yb) (a3 : Int) (a4 : Int) : Option (Yg ⊕ Yr) := O.L 114 zrV zrC (a0, a1, a2, a3, a4, ())
noncomputable abbrev zod : LoopH := { key := 28, ht := [1, 2, 3, 8], hτ := (fs [ya, ya, yj, yi]), ex := 999, ot := [], oτ := (fs []) }
noncomputable def zn9 : Code := Code.part (bodyOf 111) [1, 1, 0, 0]
noncomputable def zaz (O : Oracle E1) (a0 : Yb) (a1 : Yb) (a2 : Yg) (a3 : Ym) : Option ((Unit) ⊕ Yi) := O.L 111 zod zn9 (a0, a1, a2, a3, ())
noncomputable abbrev znP : LoopH := { key := 904, ht := [1, 2, 3, 8, 9], hτ := (fs [ya, ya, yj, yi, yc]), ex := 2, ot := [1, 2, 3, 8, 9], oτ := (fs [ya, ya, yj, yi, yc]) }
noncomputable def zn3 : Code := Code.part (bodyOf 111) [1, 1, 0, 0, 0, 1, 0, 0, 0]
noncomputable def zcY (O : Oracle E1) (a0 : Yb) (a1 : Yb) (a2 : Yg) (a3 : Ym) (a4 : Int) : Option ((Yb × Yb × Yg × Ym × Int × Unit) ⊕ Yi) := O.L 111 znP zn3 (a0, a1, a2, a3, a4, ())
noncomputable abbrev zmh : LoopH := { key := 3735540, ht := [1, 2, 3, 8, 10, 11, 12, 147, 148], hτ := (fs [yf, yf, yj, yi, yc, ya, yi, yc, yc]), ex := 5, ot := [1, 2, 3, 8, 10, 11], oτ := (fs [yf, yf, yj, yi, yc, ya]), hal := [(146, 8)] }
noncomputable def zl4 : Code := Code.part (bodyOf 111) [1, 1, 0, 0, 0, 1, 1, 1, 1, 1, 1, 1, 1, 1, 1, 1, 1, 0, 1, 0, 0]
noncomputable def zB (O : Oracle E1) (a0 : Yb) (a1 : Yb) (a2 : Yg) (a3 : Ym) (a4 : Int) (a5 : Yb) (a6 : Ym) (a7 : Int) (a8 : Int) : Option (Yx ⊕ Yi) := O.L 111 zmh zl4 (a0, a1, a2, a3, a4, a5, a6, a7, a8, ())
noncomputable abbrev znY : LoopH := { key := 116, ht := [0, 1, 6, 13, 14], hτ := (fs [yk, yg, yu, yc, yc]), ex := 0, ot := [1, 6], oτ := (fs [yg, yu]), hal := [(12, 6)] }
noncomputable def znX : Code := Code.part (bodyOf 113) [1, 1, 0, 1, 0, 0]
noncomputable def zcQ (O : Oracle E1) (a0 : Ym) (a1 : Yf) (a2 : List Yt) (a3 : Int) (a4 : Int) : Option ((Yf × (List Yt) × Unit) ⊕ Yl) := O.L 113 znY znX (a0, a1, a2, a3, a4, ())
noncomputable abbrev zlC : LoopH := { key := 116, ht := [0, 3, 9, 10, 11], hτ := (fs [yk, yc, yk, yc, yc]), ex := 0, ot := [0, 3], oτ := (fs [yk, yc]) }
noncomputable def zlK : Code := Code.part (bodyOf 149) [1, 1, 0, 1, 0, 0]
noncomputable def zbH (O : Oracle E1) (a0 : Ym) (a1 : Int) (a2 : Ym) (a3 : Int) (a4 : Int) : Option ((Ym × Int × Unit) ⊕ Yo) := O.L 149 zlC zlK (a0, a1, a2, a3, a4, ())
noncomputable abbrev zkR : LoopH := { key := 500, ht := [6, 25, 26, 27], hτ := (fs [yf, yk, yc, yc]), ex := 2, ot := [6], oτ := (fs [yf]) }
noncomputable def zkN : Code := Code.part (bodyOf 149) [1, 1, 1, 1, 0, 1, 0, 0]
noncomputable def zby (O : Oracle E1) (a0 : Yb) (a1 : Ym) (a2 : Int) (a3 : Int) : Option YF := O.L 149 zkR zkN (a0, a1, a2, a3, ())
noncomputable abbrev zis : LoopH := { key := 116, ht := [0, 3, 9, 10, 11], hτ := (fs [yo, yc, yo, yc, yc]), ex := 0, ot := [0, 3], oτ := (fs [yo, yc]) }
noncomputable def zit : Code := Code.part (bodyOf 116) [1, 1, 0, 1, 0, 0]
noncomputable def zaC (O : Oracle E1) (a0 : YE) (a1 : Int) (a2 : YE) (a3 : Int) (a4 : Int) : Option ((YE × Int × Unit) ⊕ Yj) := O.L 116 zis zit (a0, a1, a2, a3, a4, ())
noncomputable abbrev zh9 : LoopH := { key := 500, ht := [6, 25, 26, 27], hτ := (fs [ym, yo, yc, yc]), ex := 2, ot := [6], oτ := (fs [ym]) }
noncomputable def zid : Code := Code.part (bodyOf 116) [1, 1, 1, 1, 0, 1, 0, 0]
noncomputable def zat (O : Oracle E1) (a0 : Yf) (a1 : YE) (a2 : Int) (a3 : Int) : Option Yv := O.L 116 zh9 zid (a0, a1, a2, a3, ())
noncomputable abbrev zrB : LoopH := { key := 116, ht := [1, 5, 8, 9, 10], hτ := (fs [yc, yc, ya, yc, yc]), ex := 0, ot := [5], oτ := (fs [yc]) }
noncomputable def zru : Code := Code.part (bodyOf 193) [1, 1, 0, 1, 0, 0]
noncomputable def zgq (O : Oracle E1) (a0 : Int) (a1 : Int) (a2 : Yb) (a3 : Int) (a4 : Int) : Option Yu := O.L 193 zrB zru (a0, a1, a2, a3, a4, ())
noncomputable abbrev zn8 : LoopH := { key := 52, ht := [0, 1, 6], hτ := (fs [ya, ya, yc]), ex := 0, ot := [], oτ := (fs []) }
noncomputable def zot : Code := Code.part (bodyOf 182) [1, 0, 1, 0, 0]
noncomputable def zdf (O : Oracle E1) (a0 : Yb) (a1 : Yb) (a2 : Int) : Option Yq := O.L 182 zn8 zot (a0, a1, a2, ())
noncomputable abbrev zou : LoopH := { key := 244, ht := [1, 23, 24, 25], hτ := (fs [ya, ya, yc, yc]), ex := 0, ot := [], oτ := (fs []) }
noncomputable def zos : Code := Code.part (bodyOf 172) [1, 1, 1, 0, 1, 0, 0]
noncomputable def zdo (O : Oracle E1) (a0 : Yb) (a1 : Yb) (a2 : Int) (a3 : Int) : Option Yq := O.L 172 zou zos (a0, a1, a2, a3, ())
noncomputable abbrev zfd : LoopH := { key := 52, ht := [0, 1, 7, 8], hτ := (fs [yk, (.fn 194 (fs [yr])), yc, yc]), ex := 0, ot := [], oτ := (fs []) }
noncomputable def zff : Code := Code.part (bodyOf 181) [1, 0, 1, 0, 0]
noncomputable def zN (O : Oracle E1) (a0 : Ym) (a1 : Yg) (a2 : Int) (a3 : Int) : Option Yw := O.L 12779701 zfd zff (a0, a1, a2, a3, ())
noncomputable abbrev zoX : LoopH := { key := 52, ht := [0, 7, 8, 9], hτ := (fs [yk, yk, yc, yc]), ex := 0, ot := [0], oτ := (fs [yk]) }
noncomputable def zoH : Code := Code.part (bodyOf 186) [1, 0, 1, 0, 0]
noncomputable def zdR (O : Oracle E1) (a0 : Ym) (a1 : Ym) (a2 : Int) (a3 : Int) : Option ((Ym × Unit) ⊕ Yc) := O.L 186 zoX zoH (a0, a1, a2, a3, ())
noncomputable abbrev zeq : LoopH := { key := 52, ht := [0, 1, 7, 8], hτ := (fs [yk, (.fn 184 (fs [yr])), yc, yc]), ex := 0, ot := [], oτ := (fs []) }
noncomputable def zek : Code := Code.part (bodyOf 181) [1, 0, 1, 0, 0]
noncomputable def zf (O : Oracle E1) (a0 : Ym) (a1 : Yg) (a2 : Int) (a3 : Int) : Option Yw := O.L 12124341 zeq zek (a0, a1, a2, a3, ())
noncomputable abbrev znb : LoopH := { key := 244, ht := [5, 6, 12, 13, 14], hτ := (fs [yi, yi, yk, yc, yc]), ex := 0, ot := [5, 6], oτ := (fs [yi, yi]) }
noncomputable def znl : Code := Code.part (bodyOf 173) [1, 1, 1, 0, 1, 0, 0]
noncomputable def zcj (O : Oracle E1) (a0 : Ym) (a1 : Ym) (a2 : Ym) (a3 : Int) (a4 : Int) : Option ((Ym × Ym × Unit) ⊕ Ye) := O.L 173 znb znl (a0, a1, a2, a3, a4, ())
noncomputable abbrev zoY : LoopH := { key := 52, ht := [0, 1, 7, 8, 9], hτ := (fs [yg, yc, yg, yc, yc]), ex := 0, ot := [], oτ := (fs []) }
noncomputable def zo8 : Code := Code.part (bodyOf 119) [1, 0, 1, 0, 0]
noncomputable def zcs (O : Oracle E1) (a0 : Yf) (a1 : Int) (a2 : Yf) (a3 : Int) (a4 : Int) : Option Yq := O.L 119 zoY zo8 (a0, a1, a2, a3, a4, ())
noncomputable abbrev znT : LoopH := { key := 244, ht := [1, 3, 4, 10, 18, 19, 20], hτ := (fs [yi, ya, yj, yc, ya, yc, yc]), ex := 0, ot := [1, 3, 10], oτ := (fs [yi, ya, yc]) }
noncomputable def zn1 : Code := Code.part (bodyOf 187) [1, 1, 1, 0, 1, 0, 0]
noncomputable def zaJ (O : Oracle E1) (a0 : Ym) (a1 : Yb) (a2 : Yg) (a3 : Int) (a4 : Yb) (a5 : Int) (a6 : Int) : Option ((Ym × Yb × Int × Unit) ⊕ Yi) := O.L 187 znT zn1 (a0, a1, a2, a3, a4, a5, a6, ())
noncomputable abbrev zsm : LoopH := { key := 52, ht := [0, 6, 7], hτ := (fs [yi, yc, yc]), ex := 0, ot := [0], oτ := (fs [yi]), hal := [(5, 0)] }
noncomputable def zsB : Code := Code.part (bodyOf 188) [1, 0, 1, 0, 0]
noncomputable def zha (O : Oracle E1) (a0 : Ym) (a1 : Int) (a2 : Int) : Option Yy := O.L 188 zsm zsB (a0, a1, a2, ())
noncomputable abbrev zm2 : LoopH := { key := 1012, ht := [1, 12, 41, 42], hτ := (fs [ya, yf, yc, yc]), ex := 0, ot := [12], oτ := (fs [yf]), hal := [(40, 12)] }
noncomputable def zmZ : Code := Code.part (bodyOf 175) [1, 1, 1, 1, 1, 0, 1, 0, 0]
noncomputable def zbA (O : Oracle E1) (a0 : Yb) (a1 : Yb) (a2 : Int) (a3 : Int) : Option (Yg ⊕ Yr) := O.L 175 zm2 zmZ (a0, a1, a2, a3, ())
noncomputable abbrev zo2 : LoopH := { key := 52, ht := [1, 2, 3, 10], hτ := (fs [ya, yg, yj, yc]), ex := 0, ot := [], oτ := (fs []) }
noncomputable def zo1 : Code := Code.part (bodyOf 153) [1, 0, 1, 0, 0]
noncomputable def zbM (O : Oracle E1) (a0 : Yb) (a1 : Yf) (a2 : Yg) (a3 : Int) : Option ((Unit) ⊕ Yn) := O.L 153 zo2 zo1 (a0, a1, a2, a3, ())
noncomputable abbrev znZ : LoopH := { key := 6732, ht := [1, 2, 3, 10, 11, 30, 31, 32], hτ := (fs [ya, yg, yj, yc, yf, yg, yc, yc]), ex := 2, ot := [1, 2, 3, 10], oτ := (fs [ya, yg, yj, yc]) }
noncomputable def znQ : Code := Code.part (bodyOf 153) [1, 0, 1, 0, 0, 1, 0, 0, 1, 1, 0, 0]
noncomputable def zbt (O : Oracle E1) (a0 : Yb) (a1 : Yf) (a2 : Yg) (a3 : Int) (a4 : Yb) (a5 : Yf) (a6 : Int) (a7 : Int) : Option YH := O.L 153 znZ znQ (a0, a1, a2, a3, a4, a5, a6, a7, ())
noncomputable abbrev zng : LoopH := { key := 1723596, ht := [1, 2, 3, 10, 11, 12, 13, 30, 31, 32, 37], hτ := (fs [ya, yg, yj, yc, yf, yc, (.box yb), yg, yc, yc, yc]), ex := 4, ot := [1, 2, 3, 10, 11, 30, 31, 32], oτ := (fs [ya, yg, yj, yc, yf, yg, yc, yc]) }
noncomputable def znc : Code := Code.part (bodyOf 153) [1, 0, 1, 0, 0, 1, 0, 0, 1, 1, 0, 0, 1, 1, 0, 0, 1, 1, 0, 0]
noncomputable def zbd (O : Oracle E1) (a0 : Yb) (a1 : Yf) (a2 : Yg) (a3 : Int) (a4 : Yb) (a5 : Int) (a6 : Ya) (a7 : Yf) (a8 : Int) (a9 : Int) (a10 : Int) : Option YA := O.L 153 zng znc (a0, a1, a2, a3, a4, a5, a6, a7, a8, a9, a10, ())
noncomputable abbrev znW : LoopH := { key := 60, ht := [1, 2, 3, 8], hτ := (fs [yf, yg, yj, yc]), ex := 999, ot := [], oτ := (fs []) }
noncomputable def znN : Code := Code.part (bodyOf 122) [1, 1, 1, 0, 0]
noncomputable def zc3 (O : Oracle E1) (a0 : Yb) (a1 : Yf) (a2 : Yg) (a3 : Int) : Option ((Unit) ⊕ Yz) := O.L 122 znW znN (a0, a1, a2, a3, ())
noncomputable abbrev zkB : LoopH := { key := 244, ht := [1, 2, 3, 8, 9, 16, 17], hτ := (fs [yg, yg, yj, yu, yc, yc, yc]), ex := 0, ot := [1, 8, 9], oτ := (fs [yg, yu, yc]), hal := [(15, 8)] }
noncomputable def zkC : Code := Code.part (bodyOf 91) [1, 1, 1, 0, 1, 0, 0]
noncomputable def zbq (O : Oracle E1) (a0 : Yf) (a1 : Yf) (a2 : Yg) (a3 : List Yt) (a4 : Int) (a5 : Int) (a6 : Int) : Option ((Yf × (List Yt) × Int × Unit) ⊕ Yk) := O.L 91 zkB zkC (a0, a1, a2, a3, a4, a5, a6, ())
noncomputable abbrev zmE : LoopH := { key := 8060852, ht := [6, 10, 14, 16, 17], hτ := (fs [yj, yr, (.fn 83 (fs [(.ptr ye), yr])), ym, yc]), ex := 1, ot := [6, 14, 16], oτ := (fs [yj, (.fn 83 (fs [(.ptr ye), yr])), ym]) }
noncomputable def zmB : Code := Code.part (bodyOf 63) [1, 1, 1, 0, 1, 0, 1, 1, 1, 1, 1, 1, 1, 1, 1, 0, 1, 1, 0, 1, 0, 0]
noncomputable def zb9 (O : Oracle E1) (a0 : Yg) (a1 : Yb) (a2 : YJ × Yb × Unit) (a3 : Yf) (a4 : Int) : Option ((Yg × (YJ × Yb × Unit) × Yf × Unit) ⊕ Yl) := O.L 63 zmE zmB (a0, a1, a2, a3, a4, ())
noncomputable abbrev zbE : LoopH := { key := 116, ht := [1, 2, 15, 16, 17], hτ := (fs [yg, (.fn 93 (fs [])), yg, yc, yc]), ex := 0, ot := [], oτ := (fs []) }
noncomputable def zbF : Code := Code.part (bodyOf 92) [1, 1, 0, 1, 0, 0]
noncomputable def zg (O : Oracle E1) (a0 : Yf) (a1 : Unit) (a2 : Yf) (a3 : Int) (a4 : Int) : Option Yq := O.L 6160476 zbE zbF (a0, a1, a2, a3, a4, ())
noncomputable abbrev znR : LoopH := { key := 244, ht := [1, 2, 3, 24, 25, 26], hτ := (fs [yo, ye, yj, ye, yc, yc]), ex := 0, ot := [], oτ := (fs []) }
noncomputable def znO : Code := Code.part (bodyOf 13) [1, 1, 1, 0, 1, 0, 0]
noncomputable def zbs (O : Oracle E1) (a0 : YE) (a1 : YJ) (a2 : Yg) (a3 : YJ) (a4 : Int) (a5 : Int) : Option ((Unit) ⊕ YB) := O.L 13 znR znO (a0, a1, a2, a3, a4, a5, ())
noncomputable abbrev zq9 : LoopH := { key := 116, ht := [0, 1, 5], hτ := (fs [ya, ya, yc]), ex := 0, ot := [], oτ := (fs []) }
noncomputable def zre : Code := Code.part (bodyOf 21) [1, 1, 0, 1, 0, 0]
noncomputable def zfL (O : Oracle E1) (a0 : Yb) (a1 : Yb) (a2 : Int) : Option Yq := O.L 21 zq9 zre (a0, a1, a2, ())
noncomputable abbrev zra : LoopH := { key := 116, ht := [0, 1, 5], hτ := (fs [yg, yg, yc]), ex := 0, ot := [], oτ := (fs []) }
noncomputable def zq6 : Code := Code.part (bodyOf 40) [1, 1, 0, 1, 0, 0]
noncomputable def zfM (O : Oracle E1) (a0 : Yf) (a1 : Yf) (a2 : Int) : Option Yq := O.L 40 zra zq6 (a0, a1, a2, ())
noncomputable abbrev zqd : LoopH := { key := 116, ht := [0, 1, 5], hτ := (fs [yo, yo, yc]), ex := 0, ot := [], oτ := (fs []) }
noncomputable def zqm : Code := Code.part (bodyOf 15) [1, 1, 0, 1, 0, 0]
noncomputable def ze6 (O : Oracle E1) (a0 : YE) (a1 : YE) (a2 : Int) : Option Yq := O.L 15 zqd zqm (a0, a1, a2, ())
noncomputable abbrev zpZ : LoopH := { key := 116, ht := [0, 1, 5], hτ := (fs [ye, ye, yc]), ex := 0, ot := [], oτ := (fs []) }
noncomputable def zqr : Code := Code.part (bodyOf 16) [1, 1, 0, 1, 0, 0]
noncomputable def zfe (O : Oracle E1) (a0 : YJ) (a1 : YJ) (a2 : Int) : Option Yq := O.L 16 zpZ zqr (a0, a1, a2, ())
end Go.Proofs.YtkgpnekonnopgaaGreatCs.Ev
