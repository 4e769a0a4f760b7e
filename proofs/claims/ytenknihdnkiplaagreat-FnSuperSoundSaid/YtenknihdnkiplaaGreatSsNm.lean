/- A text of its own: Nm; no condition but those that each theorem names. -/
import Derived.Test.YtenknihdnkiplaaGreatSsEnv
import Derived.Test.YtenknihdnkiplaaGreatSsEvDe
namespace Go.Proofs.YtenknihdnkiplaaGreatSs.Ev
open Go Go.IntKind
set_option maxRecDepth 100000
set_option autoImplicit false
set_option linter.unusedVariables false
abbrev Ya := Bool × (List Int) × (List Int) × Unit
abbrev Yb := List Int
abbrev Yc := (Bool × Unit) × (Unit)
abbrev Yd := Int × Int × Int × Int × Int × Unit
abbrev Ye := (Int × Unit) × (Unit)
abbrev Yf := Yb × Unit
abbrev Yg := List Ya
abbrev Yh := List Yb
abbrev Yi := Yb × Int × Int × Unit
abbrev Yj := (Yh × Unit) × (Unit)
abbrev Yk := (Yg × Unit) × (Unit)
abbrev Yl := ((List Yd) × Unit) × (Unit)
abbrev Ym := Yf × (Unit)
abbrev Yn := (Yg × Bool × Unit) × (Unit)
abbrev Yo := (Yh × Bool × Unit) × (Unit)
abbrev Yp := Int × Yh × Unit
abbrev Yq := (Yb × Bool × Unit) × (Unit)
abbrev Yr := (Unit) ⊕ Yc
abbrev Ys := Yf × Yd × Yb × Yb × Yb × Yb × Yh × Yg × Yg × Yg × Unit
abbrev Yt := (Yg × Int × Unit) × (Unit)
abbrev Yu := Yi × Unit
abbrev Yv := Int × Unit
abbrev Yw := (Unit) ⊕ Ye
abbrev Yx := Yg × Unit
abbrev Yy := (Yg × Yg × Yf × (List Yd) × Int × Int × Int × Int × Unit) ⊕ Yl
abbrev Yz := Yg × Yg × Yf × (List Yd) × Int × Int × Int × Ya × Int × Int × Int × Yg × Int × Int × Unit
abbrev YA := Yb × Yb × Yf × Yh × Int × Yb × Unit
abbrev YB := Yg × Yg × Yf × (List Yd) × Int × Int × Int × Int × Int × Int × Int × Int × Int × Unit
abbrev YC := (Yg × Yg × Yf × (List Yd) × Int × Int × Unit) ⊕ Yl
abbrev YD := Option (Bool × List Int)
abbrev YE := (Yh × Unit) ⊕ Yj
abbrev YF := (List (Int × Int)) × Yh × Yh × Int × Int × Unit
abbrev YG := (Yp × Unit) × (Unit)
abbrev YH := Yb × Yh × Yb × Int × Yh × Int × Int × Yb × Int × Int × Unit
abbrev YI := ((List Yd) × Bool × Unit) × (Unit)
abbrev YJ := (Yg × Int × Bool × Unit) × (Unit)
abbrev YK := Yf × Yg × Yg × Unit
abbrev YL := Yf ⊕ Ym
abbrev YM := ((List (Int × Int)) × Yh × Int × Yh × Int × Int × Yb × Int × Int × Unit) ⊕ (YF ⊕ (Yj))
abbrev YN := Yh × Yh × Yb × Int × Yh × Int × Int × Unit
noncomputable abbrev M : Oracle E1 := Lm E1
noncomputable def zlE (O : Oracle E1) (a0 : Yb) (a1 : Yb) : Option Yc := O.C 7 (a0, a1, ())
noncomputable def zb6 (O : Oracle E1) (a0 : Int) (a1 : Int) (a2 : Int) : Option Yc := O.C 106 (a0, a1, a2, ())
noncomputable def zgs (O : Oracle E1) (a0 : Yf) (a1 : Yb) (a2 : Int) : Option Ye := O.C 209 (a0, a1, a2, ())
noncomputable def zcU (O : Oracle E1) (a0 : Yf) (a1 : Yb) : Option Yc := O.C 205 (a0, a1, ())
noncomputable def zjL (O : Oracle E1) (a0 : Yf) (a1 : Ya) : Option Yc := O.C 137 (a0, a1, ())
noncomputable def zaV (O : Oracle E1) (a0 : Yf) (a1 : Yg) : Option Yc := O.C 62 (a0, a1, ())
noncomputable def zjj (O : Oracle E1) (a0 : Yb) (a1 : Int) (a2 : Int) : Option Yc := O.C 100 (a0, a1, a2, ())
noncomputable def zhz (O : Oracle E1) (a0 : Yf) : Option Yc := O.C 136 (a0, ())
noncomputable def zcS (O : Oracle E1) (a0 : Yf) (a1 : Yg) : Option Yc := O.C 61 (a0, a1, ())
noncomputable def zhJ (O : Oracle E1) (a0 : Yb) (a1 : Int) : Option Ym := O.C 269 (a0, a1, ())
noncomputable def zfA (O : Oracle E1) (a0 : Yb) : Option Ym := O.C 268 (a0, ())
noncomputable def ziA (O : Oracle E1) (a0 : Yg) : Option Ym := O.C 221 (a0, ())
noncomputable def zh0 (O : Oracle E1) (a0 : Yg) : Option Ye := O.C 153 (a0, ())
noncomputable def zbd (O : Oracle E1) (a0 : Yb) : Option Ym := O.C 87 (a0, ())
noncomputable def zgr (O : Oracle E1) (a0 : Yb) (a1 : Int) : Option Ym := O.C 154 (a0, a1, ())
noncomputable def ziD (O : Oracle E1) (a0 : Yf) (a1 : Yg) : Option Yn := O.C 155 (a0, a1, ())
noncomputable def zgz (O : Oracle E1) (a0 : Yf) (a1 : Yg) (a2 : Yg) : Option Yn := O.C 73 (a0, a1, a2, ())
noncomputable def zhP (O : Oracle E1) (a0 : Yg) (a1 : Int) (a2 : Int) : Option Yc := O.C 138 (a0, a1, a2, ())
noncomputable def zcq (O : Oracle E1) (a0 : Ya) (a1 : Int) : Option ((Yb × Yb × Unit) × (Unit)) := O.C 139 (a0, a1, ())
noncomputable def zbI (O : Oracle E1) (a0 : Yf) (a1 : Yb) (a2 : Int) : Option Ym := O.C 141 (a0, a1, a2, ())
noncomputable def zF (O : Oracle E1) (a0 : Yh) (a1 : Yb) : Option Ym := O.C 143 (a0, a1, ())
noncomputable def zgw (O : Oracle E1) (a0 : Yf) (a1 : Yh) (a2 : Yb) (a3 : Yb) : Option Yc := O.C 206 (a0, a1, a2, a3, ())
noncomputable def zdQ (O : Oracle E1) (a0 : Yb) (a1 : Int) : Option Yc := O.C 207 (a0, a1, ())
noncomputable def zfB (O : Oracle E1) (a0 : Yh) (a1 : Int) (a2 : Yb) : Option Yj := O.C 208 (a0, a1, a2, ())
noncomputable def zhV (O : Oracle E1) (a0 : Yf) (a1 : Yb) (a2 : Yb) : Option Yo := O.C 140 (a0, a1, a2, ())
noncomputable def zgu (O : Oracle E1) (a0 : Yh) (a1 : Yg) : Option Yk := O.C 142 (a0, a1, ())
noncomputable def zeV (O : Oracle E1) (a0 : Yf) (a1 : Yb) (a2 : Int) (a3 : Yb) : Option Ym := O.C 144 (a0, a1, a2, a3, ())
noncomputable def zba (O : Oracle E1) (a0 : Yb) (a1 : Yb) : Option Yc := O.C 246 (a0, a1, ())
noncomputable def zgq (O : Oracle E1) (a0 : Yb) (a1 : Int) : Option Ye := O.C 300 (a0, a1, ())
noncomputable def zhu (O : Oracle E1) (a0 : Yb) (a1 : Yb) : Option Yc := O.C 292 (a0, a1, ())
noncomputable def zdl (O : Oracle E1) (a0 : Yb) (a1 : Yb) : Option Yc := O.C 261 (a0, a1, ())
noncomputable def zgF (O : Oracle E1) (a0 : Yb) (a1 : Yb) : Option Ye := O.C 210 (a0, a1, ())
noncomputable def zg1 (O : Oracle E1) (a0 : Yb) (a1 : Yb) : Option Yc := O.C 145 (a0, a1, ())
noncomputable def zg8 (O : Oracle E1) (a0 : Yh) (a1 : Yh) : Option Yj := O.C 262 (a0, a1, ())
noncomputable def zee (O : Oracle E1) (a0 : Yh) (a1 : Yh) : Option Yc := O.C 263 (a0, a1, ())
noncomputable def zh1 (O : Oracle E1) (a0 : Yh) (a1 : Yh) : Option Ye := O.C 211 (a0, a1, ())
noncomputable def zg6 (O : Oracle E1) (a0 : Ya) : Option Yj := O.C 212 (a0, ())
noncomputable def zeX (O : Oracle E1) (a0 : Yg) (a1 : Int) : Option Yc := O.C 146 (a0, a1, ())
noncomputable def zhx (O : Oracle E1) (a0 : Yh) : Option Yj := O.C 264 (a0, ())
noncomputable def zh2 (O : Oracle E1) (a0 : Yg) : Option Yj := O.C 265 (a0, ())
noncomputable def zhB (O : Oracle E1) (a0 : Yg) : Option Yk := O.C 213 (a0, ())
noncomputable def zjz (O : Oracle E1) (a0 : Yg) : Option Yk := O.C 225 (a0, ())
noncomputable def zfU (O : Oracle E1) (a0 : Ya) (a1 : Ya) : Option Yc := O.C 247 (a0, a1, ())
noncomputable def ziF (O : Oracle E1) (a0 : Yg) : Option Yk := O.C 214 (a0, ())
noncomputable def zdB (O : Oracle E1) (a0 : Yg) : Option Yk := O.C 147 (a0, ())
noncomputable def zcp (O : Oracle E1) (a0 : Yf) (a1 : Yg) (a2 : Yg) (a3 : Yd) : Option Yt := O.C 63 (a0, a1, a2, a3, ())
noncomputable def ziE (O : Oracle E1) (a0 : Yf) (a1 : Yg) (a2 : Yg) : Option Yl := O.C 71 (a0, a1, a2, ())
noncomputable def zd7 (O : Oracle E1) (a0 : Yf) (a1 : Yg) (a2 : Yg) : Option YI := O.C 16 (a0, a1, a2, ())
noncomputable def zcQ (O : Oracle E1) (a0 : Yi) : Option (Yv × Yu) := O.C 120 (a0, ())
noncomputable def zd (O : Oracle E1) (a0 : Yi) (a1 : Int) : Option (Yv × Yu) := O.C 57 (a0, a1, ())
noncomputable def zeg (O : Oracle E1) (a0 : Yi) : Option ((Yf × Unit) × Yu) := O.C 54 (a0, ())
noncomputable def zai (O : Oracle E1) (a0 : Yi) (a1 : Int) : Option ((Bool × Unit) × Yu) := O.C 56 (a0, a1, ())
noncomputable def zdG (O : Oracle E1) (a0 : Yi) (a1 : Yb) : Option (Yv × Yu) := O.C 160 (a0, a1, ())
noncomputable def zbS (O : Oracle E1) (a0 : Yi) (a1 : Yf) (a2 : Int) (a3 : Int) : Option (Yf × Yu) := O.C 241 (a0, a1, a2, a3, ())
noncomputable def ze7 (O : Oracle E1) (a0 : Yi) (a1 : Yf) : Option ((Ya × Unit) × Yu) := O.C 177 (a0, a1, ())
noncomputable def zdc (O : Oracle E1) (a0 : Yi) (a1 : Yf) : Option (Yx × Yu) := O.C 119 (a0, a1, ())
noncomputable def zel (O : Oracle E1) (a0 : Yi) (a1 : Yf) : Option ((Yg × Yg × Unit) × Yu) := O.C 55 (a0, a1, ())
noncomputable def zeA (O : Oracle E1) (a0 : Yb) : Option ((Yf × Yg × Yg × Yd × Unit) × (Unit)) := O.C 8 (a0, ())
noncomputable def zcj (O : Oracle E1) (a0 : Yf) (a1 : Int) : Option Ye := O.C 254 (a0, a1, ())
noncomputable def zcs (O : Oracle E1) (a0 : Yf) (a1 : Yb) : Option Yc := O.C 198 (a0, a1, ())
noncomputable def zgh (O : Oracle E1) (a0 : Yf) (a1 : Ya) : Option Yc := O.C 123 (a0, a1, ())
noncomputable def zdt (O : Oracle E1) (a0 : Ya) (a1 : Yf) : Option Yc := O.C 122 (a0, a1, ())
noncomputable def zad (O : Oracle E1) (a0 : Yg) (a1 : Yf × Unit) : Option Ye := O.C 8061125 (a0, a1, ())
noncomputable def zA (O : Oracle E1) (a0 : Yg) (a1 : Yf × Unit) : Option Yc := O.C 8061049 (a0, a1, ())
noncomputable def zaZ (O : Oracle E1) (a0 : Yf) (a1 : Yg) : Option Yc := O.C 59 (a0, a1, ())
noncomputable def zgl (O : Oracle E1) (a0 : Int) : Option Yc := O.C 163 (a0, ())
noncomputable def za6 (O : Oracle E1) (a0 : Yb) (a1 : Unit) : Option Ye := O.C 10748130 (a0, a1, ())
noncomputable def zaf (O : Oracle E1) (a0 : Yb) (a1 : Unit) : Option Yc := O.C 10748066 (a0, a1, ())
noncomputable def zfP (O : Oracle E1) (a0 : Yf) : Option Yc := O.C 77 (a0, ())
noncomputable def zbU (O : Oracle E1) (a0 : Yf) (a1 : Yg) : Option Yc := O.C 58 (a0, a1, ())
noncomputable def zf6 (O : Oracle E1) (a0 : Yb) (a1 : Int) : Option Ye := O.C 223 (a0, a1, ())
noncomputable def za4 (O : Oracle E1) (a0 : Yb) (a1 : Int) : Option Yc := O.C 158 (a0, a1, ())
noncomputable def zht (O : Oracle E1) (a0 : Yb) (a1 : Int) : Option Yc := O.C 157 (a0, a1, ())
noncomputable def za2 (O : Oracle E1) (a0 : Yh) (a1 : Yv) : Option Ye := O.C 10354910 (a0, a1, ())
noncomputable def zaa (O : Oracle E1) (a0 : Yh) (a1 : Yv) : Option Yc := O.C 10354844 (a0, a1, ())
noncomputable def zcV (O : Oracle E1) (a0 : Yh) : Option Ym := O.C 74 (a0, ())
noncomputable def zaT (O : Oracle E1) (a0 : Yg) : Option Yj := O.C 75 (a0, ())
noncomputable def zji (O : Oracle E1) (a0 : Yb) (a1 : Int) : Option Ym := O.C 150 (a0, a1, ())
noncomputable def zdr (O : Oracle E1) (a0 : Yb) (a1 : Yf) : Option Yc := O.C 220 (a0, a1, ())
noncomputable def zaw (O : Oracle E1) (a0 : Yh) (a1 : Yf × Unit) : Option Ye := O.C 14483678 (a0, a1, ())
noncomputable def zS (O : Oracle E1) (a0 : Yh) (a1 : Yf × Unit) : Option Yc := O.C 14483612 (a0, a1, ())
noncomputable def zcG (O : Oracle E1) (a0 : Yf) (a1 : Yh) : Option Yc := O.C 151 (a0, a1, ())
noncomputable def zcg (O : Oracle E1) (a0 : Yg) (a1 : Yh) : Option Yk := O.C 152 (a0, a1, ())
noncomputable def zeq (O : Oracle E1) (a0 : Yf) (a1 : Yg) (a2 : Yg) : Option Yn := O.C 72 (a0, a1, a2, ())
noncomputable def zg4 (O : Oracle E1) (a0 : Yg) (a1 : Int) (a2 : Bool) : Option Yc := O.C 124 (a0, a1, a2, ())
noncomputable def zg2 (O : Oracle E1) (a0 : Int) : Option Yc := O.C 125 (a0, ())
noncomputable def zaY (O : Oracle E1) (a0 : Ya) (a1 : Int) : Option ((Yb × Yb × Unit) × (Unit)) := O.C 126 (a0, a1, ())
noncomputable def zd0 (O : Oracle E1) (a0 : Yf) (a1 : Yb) (a2 : Int) : Option Ye := O.C 199 (a0, a1, a2, ())
noncomputable def zau (O : Oracle E1) (a0 : Yf) (a1 : Yb) (a2 : Int) : Option Ym := O.C 128 (a0, a1, a2, ())
noncomputable def zbm (O : Oracle E1) (a0 : Yh) (a1 : Yb) : Option Yq := O.C 130 (a0, a1, ())
noncomputable def zgi (O : Oracle E1) (a0 : Yf) (a1 : Yb) (a2 : Yb) : Option Yo := O.C 127 (a0, a1, a2, ())
noncomputable def zdM (O : Oracle E1) (a0 : Yh) (a1 : Yg) : Option Yn := O.C 129 (a0, a1, ())
noncomputable def zc0 (O : Oracle E1) (a0 : Yh) : Option Ym := O.C 200 (a0, ())
noncomputable def zff (O : Oracle E1) (a0 : Yf) (a1 : Yb) (a2 : Int) (a3 : Yb) : Option Ym := O.C 131 (a0, a1, a2, a3, ())
noncomputable def zbf (O : Oracle E1) (a0 : List Yg) : Option Yk := O.C 132 (a0, ())
noncomputable def ziy (O : Oracle E1) (a0 : Yh) : Option Yj := O.C 284 (a0, ())
noncomputable def zfc (O : Oracle E1) (a0 : Yg) : Option Yk := O.C 256 (a0, ())
noncomputable def zL (O : Oracle E1) (a0 : Yb) (a1 : Yb) : Option Yc := O.C 235 (a0, a1, ())
noncomputable def zgp (O : Oracle E1) (a0 : Ya) : Option ((Ya × Unit) × (Unit)) := O.C 286 (a0, ())
noncomputable def zgH (O : Oracle E1) (a0 : Ya) (a1 : Ya) : Option Yc := O.C 243 (a0, a1, ())
noncomputable def ziB (O : Oracle E1) (a0 : Ya) (a1 : Ya) : Option Yc := O.C 285 (a0, a1, ())
noncomputable def zaI (O : Oracle E1) (a0 : Yg) (a1 : Ya × Unit) : Option Ye := O.C 18743493 (a0, a1, ())
noncomputable def zu (O : Oracle E1) (a0 : Yg) (a1 : Ya × Unit) : Option Yc := O.C 18743417 (a0, a1, ())
noncomputable def zkt (O : Oracle E1) (a0 : Yg) : Option Yk := O.C 257 (a0, ())
noncomputable def ze3 (O : Oracle E1) (a0 : Yg) : Option Yk := O.C 202 (a0, ())
noncomputable def zbe (O : Oracle E1) (a0 : Yg) (a1 : Bool) : Option Yt := O.C 133 (a0, a1, ())
noncomputable def zhH (O : Oracle E1) (a0 : Yb) (a1 : Int) : Option Ye := O.C 298 (a0, a1, ())
noncomputable def zgd (O : Oracle E1) (a0 : Yb) (a1 : Yb) : Option Yc := O.C 287 (a0, a1, ())
noncomputable def zdm (O : Oracle E1) (a0 : Yb) (a1 : Yb) : Option Yc := O.C 258 (a0, a1, ())
noncomputable def zfd (O : Oracle E1) (a0 : Yb) (a1 : Yb) : Option Ye := O.C 203 (a0, a1, ())
noncomputable def zdi (O : Oracle E1) (a0 : Yb) (a1 : Yb) : Option Yc := O.C 134 (a0, a1, ())
noncomputable def zb9 (O : Oracle E1) (a0 : Yh) (a1 : Int) (a2 : Int) : Option Yj := O.C 290 (a0, a1, a2, ())
noncomputable def zfF (O : Oracle E1) (a0 : Yb) (a1 : Yb) : Option Yc := O.C 299 (a0, a1, ())
noncomputable def zaO (O : Oracle E1) (a0 : Yh) (a1 : Yf) : Option Ye := O.C 19661022 (a0, a1, ())
noncomputable def zX (O : Oracle E1) (a0 : Yh) (a1 : Yf) : Option Yc := O.C 19660956 (a0, a1, ())
noncomputable def zch (O : Oracle E1) (a0 : Yh) (a1 : Yh) : Option Yc := O.C 291 (a0, a1, ())
noncomputable def zd1 (O : Oracle E1) (a0 : Yb) (a1 : Yb) : Option Yc := O.C 289 (a0, a1, ())
noncomputable def zC (O : Oracle E1) (a0 : Yh) (a1 : Yf) : Option Ye := O.C 19005662 (a0, a1, ())
noncomputable def zfi (O : Oracle E1) (a0 : Yh) (a1 : Yh) : Option Ye := O.C 259 (a0, a1, ())
noncomputable def zet (O : Oracle E1) (a0 : Ya) : Option Yj := O.C 260 (a0, ())
noncomputable def zfJ (O : Oracle E1) (a0 : Ya) (a1 : Ya) : Option Ye := O.C 204 (a0, a1, ())
noncomputable def zci (O : Oracle E1) (a0 : Yg) (a1 : Int) : Option Yc := O.C 135 (a0, a1, ())
noncomputable def zae (O : Oracle E1) (a0 : Yf) (a1 : Yg) (a2 : Yg) (a3 : Yd) : Option Yt := O.C 60 (a0, a1, a2, a3, ())
noncomputable def zdj (O : Oracle E1) (a0 : Yf) (a1 : Yg) (a2 : Yg) (a3 : Yd) : Option YJ := O.C 9 (a0, a1, a2, a3, ())
noncomputable def zgG (O : Oracle E1) (a0 : Yf) (a1 : Yg) (a2 : Yg) (a3 : Yd) : Option YJ := O.C 10 (a0, a1, a2, a3, ())
noncomputable def zhs (O : Oracle E1) (a0 : Yb) (a1 : Yb) : Option Yc := O.C 40 (a0, a1, ())
noncomputable def zfI (O : Oracle E1) (a0 : Yb) (a1 : Yb) : Option Yc := O.C 64 (a0, a1, ())
noncomputable def zd4 (O : Oracle E1) (a0 : Yg) (a1 : Yg) : Option Yc := O.C 11 (a0, a1, ())
noncomputable def zhv (O : Oracle E1) (a0 : Yb) : Option Ye := O.C 65 (a0, ())
noncomputable def zeP (O : Oracle E1) (a0 : Yf) (a1 : Yb) : Option YG := O.C 12 (a0, a1, ())
noncomputable def ziC (O : Oracle E1) (a0 : Int) : Option Yc := O.C 215 (a0, ())
noncomputable def zhW (O : Oracle E1) (a0 : Int) (a1 : Int) : Option Ye := O.C 216 (a0, a1, ())
noncomputable def zeE (O : Oracle E1) (a0 : Int) (a1 : Int) : Option Yc := O.C 266 (a0, a1, ())
noncomputable def zaQ (O : Oracle E1) (a0 : Yb) (a1 : Yv) : Option Ye := O.C 17498338 (a0, a1, ())
noncomputable def z6 (O : Oracle E1) (a0 : Yb) (a1 : Yv) : Option Yc := O.C 17498274 (a0, a1, ())
noncomputable def zf2 (O : Oracle E1) (a0 : Int) (a1 : Yb) : Option Yc := O.C 217 (a0, a1, ())
noncomputable def zfo (O : Oracle E1) (a0 : Yf) (a1 : Yp) : Option Yc := O.C 148 (a0, a1, ())
noncomputable def zgQ (O : Oracle E1) (a0 : Yf) (a1 : Yp) : Option Yc := O.C 66 (a0, a1, ())
noncomputable def zfe (O : Oracle E1) (a0 : Yf) (a1 : Yg) : Option Yc := O.C 67 (a0, a1, ())
noncomputable def ze1 (O : Oracle E1) (a0 : Yf) (a1 : Yp) (a2 : Yb) (a3 : Int) (a4 : Yb) : Option ((Int × Int × Unit) × (Unit)) := O.C 267 (a0, a1, a2, a3, a4, ())
noncomputable def zeh (O : Oracle E1) (a0 : Yf) (a1 : Yp) (a2 : Yb) (a3 : Yb) : Option Ye := O.C 219 (a0, a1, a2, a3, ())
noncomputable def zd5 (O : Oracle E1) (a0 : Ya) (a1 : Yf) (a2 : Yp) (a3 : Yb) : Option Yc := O.C 218 (a0, a1, a2, a3, ())
noncomputable def zah (O : Oracle E1) (a0 : Yg) (a1 : Yf × Yp × Yb × Unit) : Option Ye := O.C 14352581 (a0, a1, ())
noncomputable def zB (O : Oracle E1) (a0 : Yg) (a1 : Yf × Yp × Yb × Unit) : Option Yc := O.C 14352505 (a0, a1, ())
noncomputable def zfg (O : Oracle E1) (a0 : Yf) (a1 : Yp) (a2 : Yg) (a3 : Yb) : Option Yc := O.C 149 (a0, a1, a2, a3, ())
noncomputable def zfj (O : Oracle E1) (a0 : Yf) (a1 : Yp) (a2 : Yg) : Option Yq := O.C 68 (a0, a1, a2, ())
noncomputable def zaH (O : Oracle E1) (a0 : Yf) (a1 : Yp) (a2 : Yg) : Option ((Bool × Bool × Unit) × (Unit)) := O.C 13 (a0, a1, a2, ())
noncomputable def zfx (O : Oracle E1) (a0 : Yb) : Option (YK × (Unit)) := O.C 69 (a0, ())
noncomputable def zdd (O : Oracle E1) (a0 : Yb) : Option (YK × (Unit)) := O.C 14 (a0, ())
noncomputable def zeD (O : Oracle E1) (a0 : Yf) (a1 : Yg) (a2 : Yg) : Option Yl := O.C 70 (a0, a1, a2, ())
noncomputable def zf1 (O : Oracle E1) (a0 : Yf) (a1 : Yg) (a2 : Yg) : Option YI := O.C 15 (a0, a1, a2, ())
noncomputable def zc8 (O : Oracle E1) (a0 : Yf) (a1 : Yg) (a2 : Yg) : Option Yn := O.C 17 (a0, a1, a2, ())
noncomputable def zc2 (O : Oracle E1) (a0 : Yf) (a1 : Yg) (a2 : Yg) : Option Yn := O.C 18 (a0, a1, a2, ())
noncomputable def zed (O : Oracle E1) (a0 : Yf) (a1 : Yg) : Option Yq := O.C 19 (a0, a1, ())
noncomputable def zlC (O : Oracle E1) (a0 : Yb) (a1 : Int) : Option Yc := O.C 20 (a0, a1, ())
noncomputable def zfh (O : Oracle E1) (a0 : Yb) (a1 : Yb) : Option Yc := O.C 3 (a0, a1, ())
noncomputable abbrev zqt : LoopH := { key := 56, ht := [1, 2, 3, 7], hτ := (fs [yc, ya, yk, ya]), ex := 0, ot := [2], oτ := (fs [ya]) }
noncomputable def zqf : Code := Code.part (bodyOf 209) [1, 1, 0, 0, 0]
noncomputable def zf0 (O : Oracle E1) (a0 : Yb) (a1 : Int) (a2 : Yf) (a3 : Int) : Option (Yv ⊕ Ye) := O.L 209 zqt zqf (a0, a1, a2, a3, ())
noncomputable abbrev zom : LoopH := { key := 52, ht := [1, 2, 7, 8, 9], hτ := (fs [yg, yk, yg, ya, ya]), ex := 0, ot := [1], oτ := (fs [yg]) }
noncomputable def zoo : Code := Code.part (bodyOf 62) [1, 0, 1, 0, 0]
noncomputable def zdK (O : Oracle E1) (a0 : Yg) (a1 : Yf) (a2 : Yg) (a3 : Int) (a4 : Int) : Option (Yx ⊕ Yc) := O.L 62 zom zoo (a0, a1, a2, a3, a4, ())
noncomputable abbrev zqS : LoopH := { key := 52, ht := [1, 2, 9, 10, 11], hτ := (fs [ya, ya, yc, ya, ya]), ex := 0, ot := [], oτ := (fs []) }
noncomputable def zqu : Code := Code.part (bodyOf 100) [1, 0, 1, 0, 0]
noncomputable def zfO (O : Oracle E1) (a0 : Int) (a1 : Int) (a2 : Yb) (a3 : Int) (a4 : Int) : Option Yr := O.L 100 zqS zqu (a0, a1, a2, a3, a4, ())
noncomputable abbrev zqJ : LoopH := { key := 56, ht := [0, 1, 5], hτ := (fs [yh, ya, ya]), ex := 0, ot := [0, 1, 5], oτ := (fs [yh, ya, ya]) }
noncomputable def zqD : Code := Code.part (bodyOf 269) [1, 1, 0, 0, 0]
noncomputable def zfW (O : Oracle E1) (a0 : Yb) (a1 : Int) (a2 : Int) : Option (Yi ⊕ Ym) := O.L 269 zqJ zqD (a0, a1, a2, ())
noncomputable abbrev zpM : LoopH := { key := 116, ht := [3, 6, 7, 8], hτ := (fs [yh, yc, ya, ya]), ex := 0, ot := [3], oτ := (fs [yh]) }
noncomputable def zpX : Code := Code.part (bodyOf 268) [1, 1, 0, 1, 0, 0]
noncomputable def ze6 (O : Oracle E1) (a0 : Yb) (a1 : Yb) (a2 : Int) (a3 : Int) : Option YL := O.L 268 zpM zpX (a0, a1, a2, a3, ())
noncomputable abbrev zpE : LoopH := { key := 116, ht := [3, 8, 9, 10], hτ := (fs [yh, yg, ya, ya]), ex := 0, ot := [3], oτ := (fs [yh]) }
noncomputable def zpL : Code := Code.part (bodyOf 221) [1, 1, 0, 1, 0, 0]
noncomputable def zeS (O : Oracle E1) (a0 : Yb) (a1 : Yg) (a2 : Int) (a3 : Int) : Option YL := O.L 221 zpE zpL (a0, a1, a2, a3, ())
noncomputable abbrev znR : LoopH := { key := 29900, ht := [3, 8, 9, 10, 20, 21, 22], hτ := (fs [yh, yg, ya, ya, yh, ya, ya]), ex := 2, ot := [3, 8, 9, 10], oτ := (fs [yh, yg, ya, ya]) }
noncomputable def znH : Code := Code.part (bodyOf 221) [1, 1, 0, 1, 0, 0, 1, 1, 0, 0, 1, 1, 0, 0]
noncomputable def zbY (O : Oracle E1) (a0 : Yb) (a1 : Yg) (a2 : Int) (a3 : Int) (a4 : Yb) (a5 : Int) (a6 : Int) : Option ((Yb × Yg × Int × Int × Unit) ⊕ Ym) := O.L 221 znR znH (a0, a1, a2, a3, a4, a5, a6, ())
noncomputable abbrev zo5 : LoopH := { key := 116, ht := [1, 5, 11, 12], hτ := (fs [ya, yh, ya, ya]), ex := 0, ot := [5], oτ := (fs [yh]), hal := [(10, 5)] }
noncomputable def zoI : Code := Code.part (bodyOf 154) [1, 1, 0, 1, 0, 0]
noncomputable def zeo (O : Oracle E1) (a0 : Int) (a1 : Yb) (a2 : Int) (a3 : Int) : Option YL := O.L 154 zo5 zoI (a0, a1, a2, a3, ())
noncomputable abbrev zog : LoopH := { key := 244, ht := [3, 8, 9, 14, 15, 16], hτ := (fs [yk, ya, yl, yg, ya, ya]), ex := 0, ot := [3, 9], oτ := (fs [yk, yl]) }
noncomputable def zoC : Code := Code.part (bodyOf 73) [1, 1, 1, 0, 1, 0, 0]
noncomputable def zdC (O : Oracle E1) (a0 : Yf) (a1 : Int) (a2 : Yg) (a3 : Yg) (a4 : Int) (a5 : Int) : Option ((Yf × Yg × Unit) ⊕ Yn) := O.L 73 zog zoC (a0, a1, a2, a3, a4, a5, ())
noncomputable abbrev zpj : LoopH := { key := 116, ht := [0, 5, 8, 9, 10], hτ := (fs [yi, yh, yc, ya, ya]), ex := 0, ot := [5], oτ := (fs [yh]) }
noncomputable def zo6 : Code := Code.part (bodyOf 143) [1, 1, 0, 1, 0, 0]
noncomputable def zcR (O : Oracle E1) (a0 : Yh) (a1 : Yb) (a2 : Yb) (a3 : Int) (a4 : Int) : Option YL := O.L 143 zpj zo6 (a0, a1, a2, a3, a4, ())
noncomputable abbrev zpo : LoopH := { key := 52, ht := [2, 3, 4, 11, 12, 13], hτ := (fs [yc, yc, yk, yi, ya, ya]), ex := 0, ot := [2, 3, 4], oτ := (fs [yc, yc, yk]) }
noncomputable def zpg : Code := Code.part (bodyOf 206) [1, 0, 1, 0, 0]
noncomputable def zcT (O : Oracle E1) (a0 : Yb) (a1 : Yb) (a2 : Yf) (a3 : Yh) (a4 : Int) (a5 : Int) : Option ((Yb × Yb × Yf × Unit) ⊕ Yc) := O.L 206 zpo zpg (a0, a1, a2, a3, a4, a5, ())
noncomputable abbrev zql : LoopH := { key := 52, ht := [1, 7, 8, 9], hτ := (fs [ya, yc, ya, ya]), ex := 0, ot := [], oτ := (fs []) }
noncomputable def zqg : Code := Code.part (bodyOf 207) [1, 0, 1, 0, 0]
noncomputable def zdU (O : Oracle E1) (a0 : Int) (a1 : Yb) (a2 : Int) (a3 : Int) : Option Yr := O.L 207 zql zqg (a0, a1, a2, a3, ())
noncomputable abbrev zoU : LoopH := { key := 500, ht := [0, 1, 2, 7, 8, 17, 18], hτ := (fs [yi, ya, yc, yn, yn, ya, ya]), ex := 0, ot := [1, 2, 8], oτ := (fs [ya, yc, yn]) }
noncomputable def zpi : Code := Code.part (bodyOf 208) [1, 1, 1, 1, 0, 1, 0, 0]
noncomputable def zem (O : Oracle E1) (a0 : Yh) (a1 : Int) (a2 : Yb) (a3 : Yh) (a4 : Yh) (a5 : Int) (a6 : Int) : Option ((Int × Yb × Yh × Unit) ⊕ Yj) := O.L 208 zoU zpi (a0, a1, a2, a3, a4, a5, a6, ())
noncomputable abbrev zoL : LoopH := { key := 60, ht := [1, 2, 3, 8, 9, 10], hτ := (fs [yc, yc, yk, yn, yh, yh]), ex := 999, ot := [], oτ := (fs []) }
noncomputable def zoZ : Code := Code.part (bodyOf 140) [1, 1, 1, 0, 0]
noncomputable def zak (O : Oracle E1) (a0 : Yb) (a1 : Yb) (a2 : Yf) (a3 : Yh) (a4 : Yb) (a5 : Yb) : Option ((Unit) ⊕ Yo) := O.L 140 zoL zoZ (a0, a1, a2, a3, a4, a5, ())
noncomputable abbrev zn6 : LoopH := { key := 3864, ht := [1, 2, 3, 8, 9, 10, 11], hτ := (fs [yc, yc, yk, yn, yh, yh, ya]), ex := 2, ot := [1, 2, 3, 8, 9, 10, 11], oτ := (fs [yc, yc, yk, yn, yh, yh, ya]) }
noncomputable def znP : Code := Code.part (bodyOf 140) [1, 1, 1, 0, 0, 0, 1, 1, 0, 0, 0]
noncomputable def zc6 (O : Oracle E1) (a0 : Yb) (a1 : Yb) (a2 : Yf) (a3 : Yh) (a4 : Yb) (a5 : Yb) (a6 : Int) : Option ((Yb × Yb × Yf × Yh × Yb × Yb × Int × Unit) ⊕ Yo) := O.L 140 zn6 znP (a0, a1, a2, a3, a4, a5, a6, ())
noncomputable abbrev zo8 : LoopH := { key := 116, ht := [0, 5, 8, 9, 10], hτ := (fs [yi, yl, yg, ya, ya]), ex := 0, ot := [5], oτ := (fs [yl]) }
noncomputable def zoG : Code := Code.part (bodyOf 142) [1, 1, 0, 1, 0, 0]
noncomputable def zep (O : Oracle E1) (a0 : Yh) (a1 : Yg) (a2 : Yg) (a3 : Int) (a4 : Int) : Option (Yx ⊕ Yk) := O.L 142 zo8 zoG (a0, a1, a2, a3, a4, ())
noncomputable abbrev zpR : LoopH := { key := 116, ht := [0, 1, 12, 13], hτ := (fs [yc, yc, ya, ya]), ex := 0, ot := [], oτ := (fs []) }
noncomputable def zpZ : Code := Code.part (bodyOf 246) [1, 1, 0, 1, 0, 0]
noncomputable def ze0 (O : Oracle E1) (a0 : Yb) (a1 : Yb) (a2 : Int) (a3 : Int) : Option Yr := O.L 246 zpR zpZ (a0, a1, a2, a3, ())
noncomputable abbrev zoJ : LoopH := { key := 116, ht := [1, 5, 8, 9, 10], hτ := (fs [ya, ya, yc, ya, ya]), ex := 0, ot := [5], oτ := (fs [ya]) }
noncomputable def zoP : Code := Code.part (bodyOf 300) [1, 1, 0, 1, 0, 0]
noncomputable def zei (O : Oracle E1) (a0 : Int) (a1 : Int) (a2 : Yb) (a3 : Int) (a4 : Int) : Option (Yv ⊕ Ye) := O.L 300 zoJ zoP (a0, a1, a2, a3, a4, ())
noncomputable abbrev zoD : LoopH := { key := 52, ht := [0, 1, 8, 9, 10], hτ := (fs [yc, yc, yh, ya, ya]), ex := 0, ot := [], oτ := (fs []) }
noncomputable def zoj : Code := Code.part (bodyOf 292) [1, 0, 1, 0, 0]
noncomputable def zdP (O : Oracle E1) (a0 : Yb) (a1 : Yb) (a2 : Yb) (a3 : Int) (a4 : Int) : Option Yr := O.L 292 zoD zoj (a0, a1, a2, a3, a4, ())
noncomputable abbrev znq : LoopH := { key := 244, ht := [0, 1, 23, 24], hτ := (fs [yc, yc, ya, ya]), ex := 0, ot := [], oτ := (fs []) }
noncomputable def zm3 : Code := Code.part (bodyOf 261) [1, 1, 1, 0, 1, 0, 0]
noncomputable def zcM (O : Oracle E1) (a0 : Yb) (a1 : Yb) (a2 : Int) (a3 : Int) : Option Yr := O.L 261 znq zm3 (a0, a1, a2, a3, ())
noncomputable abbrev zoS : LoopH := { key := 244, ht := [5, 6, 16, 17, 18], hτ := (fs [yn, yn, yi, ya, ya]), ex := 0, ot := [6], oτ := (fs [yn]) }
noncomputable def zo9 : Code := Code.part (bodyOf 262) [1, 1, 1, 0, 1, 0, 0]
noncomputable def zef (O : Oracle E1) (a0 : Yh) (a1 : Yh) (a2 : Yh) (a3 : Int) (a4 : Int) : Option YE := O.L 262 zoS zo9 (a0, a1, a2, a3, a4, ())
noncomputable abbrev znn : LoopH := { key := 250676, ht := [5, 6, 8, 9, 16, 17, 18, 23, 24], hτ := (fs [yn, yn, yc, ya, yi, ya, ya, ya, ya]), ex := 2, ot := [5, 6, 8, 9, 16, 17, 18], oτ := (fs [yn, yn, yc, ya, yi, ya, ya]), hal := [(22, 5)] }
noncomputable def znf : Code := Code.part (bodyOf 262) [1, 1, 1, 0, 1, 0, 0, 1, 1, 0, 0, 1, 1, 0, 1, 0, 0]
noncomputable def zcO (O : Oracle E1) (a0 : Yh) (a1 : Yh) (a2 : Yb) (a3 : Int) (a4 : Yh) (a5 : Int) (a6 : Int) (a7 : Int) (a8 : Int) : Option (YN ⊕ Yj) := O.L 262 znn znf (a0, a1, a2, a3, a4, a5, a6, a7, a8, ())
noncomputable abbrev zpU : LoopH := { key := 52, ht := [0, 10, 11, 12], hτ := (fs [yi, yi, ya, ya]), ex := 0, ot := [0], oτ := (fs [yi]) }
noncomputable def zpI : Code := Code.part (bodyOf 263) [1, 0, 1, 0, 0]
noncomputable def zeU (O : Oracle E1) (a0 : Yh) (a1 : Yh) (a2 : Int) (a3 : Int) : Option ((Yh × Unit) ⊕ Yc) := O.L 263 zpU zpI (a0, a1, a2, a3, ())
noncomputable abbrev znx : LoopH := { key := 54068, ht := [0, 6, 7, 10, 11, 12, 16, 17, 18], hτ := (fs [yi, yc, .bool, yi, ya, ya, yi, ya, ya]), ex := 2, ot := [0, 7, 10, 11, 12], oτ := (fs [yi, .bool, yi, ya, ya]) }
noncomputable def znN : Code := Code.part (bodyOf 263) [1, 0, 1, 0, 0, 1, 1, 0, 0, 1, 1, 0, 1, 0, 0]
noncomputable def zb0 (O : Oracle E1) (a0 : Yh) (a1 : Yb) (a2 : Bool) (a3 : Yh) (a4 : Int) (a5 : Int) (a6 : Yh) (a7 : Int) (a8 : Int) : Option ((Yh × Bool × Yh × Int × Int × Unit) ⊕ Yc) := O.L 263 znx znN (a0, a1, a2, a3, a4, a5, a6, a7, a8, ())
noncomputable abbrev znW : LoopH := { key := 52, ht := [0, 1, 7, 8, 9], hτ := (fs [yg, ya, yg, ya, ya]), ex := 0, ot := [], oτ := (fs []) }
noncomputable def znB : Code := Code.part (bodyOf 146) [1, 0, 1, 0, 0]
noncomputable def zb1 (O : Oracle E1) (a0 : Yg) (a1 : Int) (a2 : Yg) (a3 : Int) (a4 : Int) : Option Yr := O.L 146 znW znB (a0, a1, a2, a3, a4, ())
noncomputable abbrev zn2 : LoopH := { key := 244, ht := [3, 4, 12, 13, 14], hτ := (fs [yh, yn, yi, ya, ya]), ex := 0, ot := [4], oτ := (fs [yn]) }
noncomputable def znD : Code := Code.part (bodyOf 264) [1, 1, 1, 0, 1, 0, 0]
noncomputable def zc1 (O : Oracle E1) (a0 : Yb) (a1 : Yh) (a2 : Yh) (a3 : Int) (a4 : Int) : Option YE := O.L 264 zn2 znD (a0, a1, a2, a3, a4, ())
noncomputable abbrev zmm : LoopH := { key := 250676, ht := [3, 4, 7, 12, 13, 14, 18, 19, 20], hτ := (fs [yh, yn, yh, yi, ya, ya, yc, ya, ya]), ex := 2, ot := [3, 4, 7, 12, 13, 14], oτ := (fs [yh, yn, yh, yi, ya, ya]) }
noncomputable def zmB : Code := Code.part (bodyOf 264) [1, 1, 1, 0, 1, 0, 0, 1, 1, 0, 0, 1, 1, 0, 1, 0, 0]
noncomputable def zbq (O : Oracle E1) (a0 : Yb) (a1 : Yh) (a2 : Yb) (a3 : Yh) (a4 : Int) (a5 : Int) (a6 : Yb) (a7 : Int) (a8 : Int) : Option ((Yb × Yh × Yb × Yh × Int × Int × Unit) ⊕ Yj) := O.L 264 zmm zmB (a0, a1, a2, a3, a4, a5, a6, a7, a8, ())
noncomputable abbrev zla : LoopH := { key := 256693044, ht := [3, 4, 7, 9, 12, 13, 14, 18, 19, 20, 37, 38], hτ := (fs [yh, yn, yh, ya, yi, ya, ya, yc, ya, ya, ya, ya]), ex := 4, ot := [3, 4, 7, 9, 12, 13, 14, 18, 19, 20], oτ := (fs [yh, yn, yh, ya, yi, ya, ya, yc, ya, ya]), hal := [(36, 3)] }
noncomputable def zkX : Code := Code.part (bodyOf 264) [1, 1, 1, 0, 1, 0, 0, 1, 1, 0, 0, 1, 1, 0, 1, 0, 0, 1, 1, 0, 0, 1, 1, 0, 1, 0, 0]
noncomputable def zaB (O : Oracle E1) (a0 : Yb) (a1 : Yh) (a2 : Yb) (a3 : Int) (a4 : Yh) (a5 : Int) (a6 : Int) (a7 : Yb) (a8 : Int) (a9 : Int) (a10 : Int) (a11 : Int) : Option (YH ⊕ Yj) := O.L 264 zla zkX (a0, a1, a2, a3, a4, a5, a6, a7, a8, a9, a10, a11, ())
noncomputable abbrev zpd : LoopH := { key := 116, ht := [3, 6, 7, 8], hτ := (fs [yn, yg, ya, ya]), ex := 0, ot := [3], oτ := (fs [yn]) }
noncomputable def zoT : Code := Code.part (bodyOf 265) [1, 1, 0, 1, 0, 0]
noncomputable def zer (O : Oracle E1) (a0 : Yh) (a1 : Yg) (a2 : Int) (a3 : Int) : Option YE := O.L 265 zpd zoT (a0, a1, a2, a3, ())
noncomputable abbrev zn1 : LoopH := { key := 244, ht := [3, 4, 10, 11, 12], hτ := (fs [yn, yl, yg, ya, ya]), ex := 0, ot := [4], oτ := (fs [yl]) }
noncomputable def znX : Code := Code.part (bodyOf 213) [1, 1, 1, 0, 1, 0, 0]
noncomputable def zc9 (O : Oracle E1) (a0 : Yh) (a1 : Yg) (a2 : Yg) (a3 : Int) (a4 : Int) : Option (Yx ⊕ Yk) := O.L 213 zn1 znX (a0, a1, a2, a3, a4, ())
noncomputable abbrev zqL : LoopH := { key := 116, ht := [3, 6, 7, 8], hτ := (fs [yl, yg, ya, ya]), ex := 0, ot := [3], oτ := (fs [yl]) }
noncomputable def zqM : Code := Code.part (bodyOf 225) [1, 1, 0, 1, 0, 0]
noncomputable def zfK (O : Oracle E1) (a0 : Yg) (a1 : Yg) (a2 : Int) (a3 : Int) : Option (Yx ⊕ Yk) := O.L 225 zqL zqM (a0, a1, a2, a3, ())
noncomputable abbrev zpN : LoopH := { key := 116, ht := [3, 9, 10, 11], hτ := (fs [yl, yg, ya, ya]), ex := 0, ot := [3], oτ := (fs [yl]) }
noncomputable def zpO : Code := Code.part (bodyOf 214) [1, 1, 0, 1, 0, 0]
noncomputable def zcf (O : Oracle E1) (a0 : Yg) (a1 : Yg) (a2 : Int) (a3 : Int) : Option (Yx ⊕ Yk) := O.L 214 zpN zpO (a0, a1, a2, a3, ())
noncomputable abbrev zna : LoopH := { key := 239220, ht := [3, 5, 6, 9, 10, 11, 26, 27], hτ := (fs [yl, (.box yb), .bool, yg, ya, ya, ya, ya]), ex := 2, ot := [3, 5, 6, 9, 10, 11], oτ := (fs [yl, (.box yb), .bool, yg, ya, ya]), hal := [(25, 3)] }
noncomputable def zne : Code := Code.part (bodyOf 214) [1, 1, 0, 1, 0, 0, 1, 1, 0, 0, 1, 1, 1, 0, 1, 0, 0]
noncomputable def zaU (O : Oracle E1) (a0 : Yg) (a1 : Ya) (a2 : Bool) (a3 : Yg) (a4 : Int) (a5 : Int) (a6 : Int) (a7 : Int) : Option ((Yg × Ya × Bool × Yg × Int × Int × Unit) ⊕ Yk) := O.L 214 zna zne (a0, a1, a2, a3, a4, a5, a6, a7, ())
noncomputable abbrev zmY : LoopH := { key := 262132, ht := [4, 7, 10, 14, 15, 16, 17, 18, 19, 20, 128, 129], hτ := yr, ex := 0, ot := [4, 7, 10, 14, 15, 16, 17, 18, 19, 20], oτ := yu, hal := [(127, 18)] }
noncomputable def zmR : Code := Code.part (bodyOf 63) [1, 1, 1, 1, 1, 1, 1, 1, 1, 1, 1, 1, 1, 0, 1, 0, 0]
noncomputable def zck (O : Oracle E1) (a0 : Yf) (a1 : Yd) (a2 : Yb) (a3 : Yb) (a4 : Yb) (a5 : Yb) (a6 : Yh) (a7 : Yg) (a8 : Yg) (a9 : Yg) (a10 : Int) (a11 : Int) : Option (Ys ⊕ Yt) := O.L 63 zmY zmR (a0, a1, a2, a3, a4, a5, a6, a7, a8, a9, a10, a11, ())
noncomputable abbrev zmV : LoopH := { key := 524276, ht := [4, 7, 10, 14, 15, 16, 17, 18, 19, 20, 144, 145], hτ := yr, ex := 2, ot := [4, 7, 10, 14, 15, 16, 17, 18, 19, 20], oτ := yu, hal := [(143, 19)] }
noncomputable def zmQ : Code := Code.part (bodyOf 63) [1, 1, 1, 1, 1, 1, 1, 1, 1, 1, 1, 1, 1, 1, 0, 1, 0, 0]
noncomputable def zct (O : Oracle E1) (a0 : Yf) (a1 : Yd) (a2 : Yb) (a3 : Yb) (a4 : Yb) (a5 : Yb) (a6 : Yh) (a7 : Yg) (a8 : Yg) (a9 : Yg) (a10 : Int) (a11 : Int) : Option (Ys ⊕ Yt) := O.L 63 zmV zmQ (a0, a1, a2, a3, a4, a5, a6, a7, a8, a9, a10, a11, ())
noncomputable abbrev zpH : LoopH := { key := 116, ht := [1, 2, 3, 7, 20, 21], hτ := (fs [yg, yg, yk, yq, ya, ya]), ex := 0, ot := [7], oτ := (fs [yq]) }
noncomputable def zpJ : Code := Code.part (bodyOf 71) [1, 1, 0, 1, 0, 0]
noncomputable def zeR (O : Oracle E1) (a0 : Yg) (a1 : Yg) (a2 : Yf) (a3 : List Yd) (a4 : Int) (a5 : Int) : Option (((List Yd) × Unit) ⊕ Yl) := O.L 71 zpH zpJ (a0, a1, a2, a3, a4, a5, ())
noncomputable abbrev zn7 : LoopH := { key := 29900, ht := [1, 2, 3, 7, 8, 9, 20, 21], hτ := (fs [yg, yg, yk, yq, ya, ya, ya, ya]), ex := 2, ot := [1, 2, 3, 7, 20, 21], oτ := (fs [yg, yg, yk, yq, ya, ya]) }
noncomputable def znL : Code := Code.part (bodyOf 71) [1, 1, 0, 1, 0, 0, 1, 1, 0, 0, 1, 1, 0, 0]
noncomputable def zde (O : Oracle E1) (a0 : Yg) (a1 : Yg) (a2 : Yf) (a3 : List Yd) (a4 : Int) (a5 : Int) (a6 : Int) (a7 : Int) : Option YC := O.L 71 zn7 znL (a0, a1, a2, a3, a4, a5, a6, a7, ())
noncomputable abbrev znr : LoopH := { key := 1913636, ht := [1, 2, 3, 7, 8, 9, 20, 21, 28, 29, 30], hτ := (fs [yg, yg, yk, yq, ya, ya, ya, ya, yg, ya, ya]), ex := 4, ot := [1, 2, 3, 7, 8, 9, 20, 21], oτ := (fs [yg, yg, yk, yq, ya, ya, ya, ya]) }
noncomputable def zno : Code := Code.part (bodyOf 71) [1, 1, 0, 1, 0, 0, 1, 1, 0, 0, 1, 1, 0, 0, 1, 0, 0, 1, 0, 0]
noncomputable def zcE (O : Oracle E1) (a0 : Yg) (a1 : Yg) (a2 : Yf) (a3 : List Yd) (a4 : Int) (a5 : Int) (a6 : Int) (a7 : Int) (a8 : Yg) (a9 : Int) (a10 : Int) : Option Yy := O.L 71 znr zno (a0, a1, a2, a3, a4, a5, a6, a7, a8, a9, a10, ())
noncomputable abbrev zmf : LoopH := { key := 489891020, ht := [1, 2, 3, 7, 8, 9, 10, 11, 12, 20, 21, 28, 29, 30], hτ := ys, ex := 6, ot := [1, 2, 3, 7, 8, 9, 20, 21, 28, 29, 30], oτ := (fs [yg, yg, yk, yq, ya, ya, ya, ya, yg, ya, ya]) }
noncomputable def zlN : Code := Code.part (bodyOf 71) [1, 1, 0, 1, 0, 0, 1, 1, 0, 0, 1, 1, 0, 0, 1, 0, 0, 1, 0, 0, 1, 1, 0, 0, 1, 1, 0, 0]
noncomputable def zbN (O : Oracle E1) (a0 : Yg) (a1 : Yg) (a2 : Yf) (a3 : List Yd) (a4 : Int) (a5 : Int) (a6 : Int) (a7 : Ya) (a8 : Int) (a9 : Int) (a10 : Int) (a11 : Yg) (a12 : Int) (a13 : Int) : Option ((Yg × Yg × Yf × (List Yd) × Int × Int × Int × Int × Yg × Int × Int × Unit) ⊕ Yl) := O.L 71 zmf zlN (a0, a1, a2, a3, a4, a5, a6, a7, a8, a9, a10, a11, a12, a13, ())
noncomputable abbrev zk2 : LoopH := { key := 62706050636, ht := [1, 2, 3, 7, 8, 9, 10, 11, 12, 20, 21, 28, 29, 30, 46, 47], hτ := yv, ex := 8, ot := [1, 2, 3, 7, 8, 9, 10, 11, 12, 20, 21, 28, 29, 30], oτ := ys }
noncomputable def zlc : Code := Code.part (bodyOf 71) [1, 1, 0, 1, 0, 0, 1, 1, 0, 0, 1, 1, 0, 0, 1, 0, 0, 1, 0, 0, 1, 1, 0, 0, 1, 1, 0, 0, 1, 0, 0, 1, 1, 0, 0]
noncomputable def zby (O : Oracle E1) (a0 : Yg) (a1 : Yg) (a2 : Yf) (a3 : List Yd) (a4 : Int) (a5 : Int) (a6 : Int) (a7 : Ya) (a8 : Int) (a9 : Int) (a10 : Int) (a11 : Yg) (a12 : Int) (a13 : Int) (a14 : Int) (a15 : Int) : Option (Yz ⊕ Yl) := O.L 71 zk2 zlc (a0, a1, a2, a3, a4, a5, a6, a7, a8, a9, a10, a11, a12, a13, a14, a15, ())
noncomputable abbrev zmA : LoopH := { key := 4084, ht := [0, 2, 3, 5, 10, 11], hτ := (fs [yf, ya, ya, yk, yh, ya]), ex := 0, ot := [0, 10], oτ := (fs [yf, yh]) }
noncomputable def zmn : Code := Code.part (bodyOf 241) [1, 1, 1, 1, 1, 1, 1, 0, 1, 0, 0]
noncomputable def zM (O : Oracle E1) (a0 : Yi) (a1 : Int) (a2 : Int) (a3 : Yf) (a4 : Yb) (a5 : Int) : Option ((Yi × Yb × Unit) ⊕ (Yf × Yu)) := O.L 241 zmA zmn (a0, a1, a2, a3, a4, a5, ())
noncomputable abbrev zmp : LoopH := { key := 116, ht := [0, 3, 5, 6], hτ := (fs [yf, yk, yl, ya]), ex := 0, ot := [0, 3, 5], oτ := (fs [yf, yk, yl]) }
noncomputable def zmx : Code := Code.part (bodyOf 119) [1, 1, 0, 1, 0, 0]
noncomputable def zb3 (O : Oracle E1) (a0 : Yi) (a1 : Yf) (a2 : Yg) (a3 : Int) : Option ((Yi × Yf × Yg × Unit) ⊕ (Yx × Yu)) := O.L 119 zmp zmx (a0, a1, a2, a3, ())
noncomputable abbrev zlw : LoopH := { key := 8104, ht := [0, 3, 5], hτ := (fs [yf, yk, yl]), ex := 3, ot := [0, 5], oτ := (fs [yf, yl]) }
noncomputable def zlI : Code := Code.part (bodyOf 119) [1, 1, 1, 1, 1, 0, 1, 0, 1, 0, 0, 0]
noncomputable def zbH (O : Oracle E1) (a0 : Yi) (a1 : Yf) (a2 : Yg) : Option ((Yi × Yg × Unit) ⊕ (Yx × Yu)) := O.L 119 zlw zlI (a0, a1, a2, ())
noncomputable abbrev zmq : LoopH := { key := 244, ht := [2, 5, 11, 12, 13], hτ := (fs [yk, ya, yc, ya, ya]), ex := 0, ot := [5], oτ := (fs [ya]) }
noncomputable def zmt : Code := Code.part (bodyOf 198) [1, 1, 1, 0, 1, 0, 0]
noncomputable def za1 (O : Oracle E1) (a0 : Yf) (a1 : Int) (a2 : Yb) (a3 : Int) (a4 : Int) : Option (Yv ⊕ Yc) := O.L 198 zmq zmt (a0, a1, a2, a3, a4, ())
noncomputable abbrev zcx : LoopH := { key := 52, ht := [0, 1, 7, 8], hτ := (fs [yg, (.fn 122 yt), ya, ya]), ex := 0, ot := [], oτ := (fs []) }
noncomputable def zcw : Code := Code.part (bodyOf 197) [1, 0, 1, 0, 0]
noncomputable def zk (O : Oracle E1) (a0 : Yg) (a1 : Yf × Unit) (a2 : Int) (a3 : Int) : Option Yw := O.L 8061125 zcx zcw (a0, a1, a2, a3, ())
noncomputable abbrev zfp : LoopH := { key := 52, ht := [0, 1, 7, 8], hτ := (fs [yc, (.fn 163 (fs [])), ya, ya]), ex := 0, ot := [], oτ := (fs []) }
noncomputable def zfr : Code := Code.part (bodyOf 226) [1, 0, 1, 0, 0]
noncomputable def zR (O : Oracle E1) (a0 : Yb) (a1 : Unit) (a2 : Int) (a3 : Int) : Option Yw := O.L 10748130 zfp zfr (a0, a1, a2, a3, ())
noncomputable abbrev zli : LoopH := { key := 52, ht := [0, 1, 7, 8], hτ := (fs [yc, ya, ya, ya]), ex := 0, ot := [], oτ := (fs []) }
noncomputable def zlj : Code := Code.part (bodyOf 223) [1, 0, 1, 0, 0]
noncomputable def zbu (O : Oracle E1) (a0 : Yb) (a1 : Int) (a2 : Int) (a3 : Int) : Option Yw := O.L 223 zli zlj (a0, a1, a2, a3, ())
noncomputable abbrev ze5 : LoopH := { key := 52, ht := [0, 1, 7, 8], hτ := (fs [yi, (.fn 157 yy), ya, ya]), ex := 0, ot := [], oτ := (fs []) }
noncomputable def zeY : Code := Code.part (bodyOf 222) [1, 0, 1, 0, 0]
noncomputable def zP (O : Oracle E1) (a0 : Yh) (a1 : Yv) (a2 : Int) (a3 : Int) : Option Yw := O.L 10354910 ze5 zeY (a0, a1, a2, a3, ())
noncomputable abbrev zpT : LoopH := { key := 116, ht := [0, 3, 5], hτ := (fs [yi, yh, ya]), ex := 0, ot := [3], oτ := (fs [yh]) }
noncomputable def zpY : Code := Code.part (bodyOf 74) [1, 1, 0, 1, 0, 0]
noncomputable def ze2 (O : Oracle E1) (a0 : Yh) (a1 : Yb) (a2 : Int) : Option YL := O.L 74 zpT zpY (a0, a1, a2, ())
noncomputable abbrev zoF : LoopH := { key := 116, ht := [3, 6, 7, 8], hτ := (fs [yn, yg, ya, ya]), ex := 0, ot := [3], oτ := (fs [yn]) }
noncomputable def zoY : Code := Code.part (bodyOf 75) [1, 1, 0, 1, 0, 0]
noncomputable def zes (O : Oracle E1) (a0 : Yh) (a1 : Yg) (a2 : Int) (a3 : Int) : Option YE := O.L 75 zoF zoY (a0, a1, a2, a3, ())
noncomputable abbrev zqK : LoopH := { key := 116, ht := [1, 5, 11, 12], hτ := (fs [ya, yh, ya, ya]), ex := 0, ot := [5], oτ := (fs [yh]), hal := [(10, 5)] }
noncomputable def zqr : Code := Code.part (bodyOf 150) [1, 1, 0, 1, 0, 0]
noncomputable def zfD (O : Oracle E1) (a0 : Int) (a1 : Yb) (a2 : Int) (a3 : Int) : Option YL := O.L 150 zqK zqr (a0, a1, a2, a3, ())
noncomputable abbrev zdq : LoopH := { key := 52, ht := [0, 1, 7, 8], hτ := (fs [yi, (.fn 220 yt), ya, ya]), ex := 0, ot := [], oτ := (fs []) }
noncomputable def zdw : Code := Code.part (bodyOf 222) [1, 0, 1, 0, 0]
noncomputable def zq (O : Oracle E1) (a0 : Yh) (a1 : Yf × Unit) (a2 : Int) (a3 : Int) : Option Yw := O.L 14483678 zdq zdw (a0, a1, a2, a3, ())
noncomputable abbrev zmM : LoopH := { key := 500, ht := [2, 3, 8, 10, 29, 30], hτ := (fs [yg, yk, ya, (.own (.mv ya)), ya, ya]), ex := 0, ot := [2, 3, 10], oτ := (fs [yg, yk, (.own (.mv ya))]), hal := [(28, 10)] }
noncomputable def zmT : Code := Code.part (bodyOf 72) [1, 1, 1, 1, 0, 1, 0, 0]
noncomputable def zbz (O : Oracle E1) (a0 : Yg) (a1 : Yf) (a2 : Int) (a3 : List YD) (a4 : Int) (a5 : Int) : Option ((Yg × Yf × (List YD) × Unit) ⊕ Yn) := O.L 72 zmM zmT (a0, a1, a2, a3, a4, a5, ())
noncomputable abbrev zof : LoopH := { key := 52, ht := [1, 2, 3, 7], hτ := (fs [yc, ya, yk, ya]), ex := 0, ot := [2], oτ := (fs [ya]) }
noncomputable def zox : Code := Code.part (bodyOf 199) [1, 0, 1, 0, 0]
noncomputable def zdH (O : Oracle E1) (a0 : Yb) (a1 : Int) (a2 : Yf) (a3 : Int) : Option (Yv ⊕ Ye) := O.L 199 zof zox (a0, a1, a2, a3, ())
noncomputable abbrev zqz : LoopH := { key := 116, ht := [0, 6, 9, 10, 11], hτ := (fs [yi, yh, yc, ya, ya]), ex := 0, ot := [6], oτ := (fs [yh]) }
noncomputable def zqC : Code := Code.part (bodyOf 130) [1, 1, 0, 1, 0, 0]
noncomputable def zd3 (O : Oracle E1) (a0 : Yh) (a1 : Yb) (a2 : Yb) (a3 : Int) (a4 : Int) : Option (Yf ⊕ Yq) := O.L 130 zqz zqC (a0, a1, a2, a3, a4, ())
noncomputable abbrev zm6 : LoopH := { key := 28, ht := [1, 2, 3, 8], hτ := (fs [yc, yc, yk, yn]), ex := 999, ot := [], oτ := (fs []) }
noncomputable def zm2 : Code := Code.part (bodyOf 127) [1, 1, 0, 0]
noncomputable def zan (O : Oracle E1) (a0 : Yb) (a1 : Yb) (a2 : Yf) (a3 : Yh) : Option ((Unit) ⊕ Yo) := O.L 127 zm6 zm2 (a0, a1, a2, a3, ())
noncomputable abbrev zmZ : LoopH := { key := 904, ht := [1, 2, 3, 8, 9], hτ := (fs [yc, yc, yk, yn, ya]), ex := 2, ot := [1, 2, 3, 8, 9], oτ := (fs [yc, yc, yk, yn, ya]) }
noncomputable def zmI : Code := Code.part (bodyOf 127) [1, 1, 0, 0, 0, 1, 0, 0, 0]
noncomputable def zcn (O : Oracle E1) (a0 : Yb) (a1 : Yb) (a2 : Yf) (a3 : Yh) (a4 : Int) : Option ((Yb × Yb × Yf × Yh × Int × Unit) ⊕ Yo) := O.L 127 zmZ zmI (a0, a1, a2, a3, a4, ())
noncomputable abbrev zk7 : LoopH := { key := 3735540, ht := [1, 2, 3, 8, 10, 11, 12, 147, 148], hτ := (fs [yh, yh, yk, yn, ya, yc, yn, ya, ya]), ex := 5, ot := [1, 2, 3, 8, 10, 11], oτ := (fs [yh, yh, yk, yn, ya, yc]), hal := [(146, 8)] }
noncomputable def zld : Code := Code.part (bodyOf 127) [1, 1, 0, 0, 0, 1, 1, 1, 1, 1, 1, 1, 1, 1, 1, 1, 1, 0, 1, 0, 0]
noncomputable def zn (O : Oracle E1) (a0 : Yb) (a1 : Yb) (a2 : Yf) (a3 : Yh) (a4 : Int) (a5 : Yb) (a6 : Yh) (a7 : Int) (a8 : Int) : Option (YA ⊕ Yo) := O.L 127 zk7 zld (a0, a1, a2, a3, a4, a5, a6, a7, a8, ())
noncomputable abbrev zmU : LoopH := { key := 116, ht := [0, 1, 6, 13, 14], hτ := (fs [yi, yg, (.own (.mv ya)), ya, ya]), ex := 0, ot := [1, 6], oτ := (fs [yg, (.own (.mv ya))]), hal := [(12, 6)] }
noncomputable def zmP : Code := Code.part (bodyOf 129) [1, 1, 0, 1, 0, 0]
noncomputable def zcr (O : Oracle E1) (a0 : Yh) (a1 : Yg) (a2 : List YD) (a3 : Int) (a4 : Int) : Option ((Yg × (List YD) × Unit) ⊕ Yn) := O.L 129 zmU zmP (a0, a1, a2, a3, a4, ())
noncomputable abbrev zkM : LoopH := { key := 116, ht := [0, 3, 9, 10, 11], hτ := (fs [yi, ya, yi, ya, ya]), ex := 0, ot := [0, 3], oτ := (fs [yi, ya]) }
noncomputable def zkA : Code := Code.part (bodyOf 200) [1, 1, 0, 1, 0, 0]
noncomputable def zbk (O : Oracle E1) (a0 : Yh) (a1 : Int) (a2 : Yh) (a3 : Int) (a4 : Int) : Option ((Yh × Int × Unit) ⊕ Ym) := O.L 200 zkM zkA (a0, a1, a2, a3, a4, ())
noncomputable abbrev zki : LoopH := { key := 500, ht := [6, 25, 26, 27], hτ := (fs [yh, yi, ya, ya]), ex := 2, ot := [6], oτ := (fs [yh]) }
noncomputable def zj5 : Code := Code.part (bodyOf 200) [1, 1, 1, 1, 0, 1, 0, 0]
noncomputable def zbg (O : Oracle E1) (a0 : Yb) (a1 : Yh) (a2 : Int) (a3 : Int) : Option YL := O.L 200 zki zj5 (a0, a1, a2, a3, ())
noncomputable abbrev zhD : LoopH := { key := 116, ht := [0, 3, 9, 10, 11], hτ := (fs [(.sl yg), ya, (.sl yg), ya, ya]), ex := 0, ot := [0, 3], oτ := (fs [(.sl yg), ya]) }
noncomputable def zhC : Code := Code.part (bodyOf 132) [1, 1, 0, 1, 0, 0]
noncomputable def zap (O : Oracle E1) (a0 : List Yg) (a1 : Int) (a2 : List Yg) (a3 : Int) (a4 : Int) : Option (((List Yg) × Int × Unit) ⊕ Yk) := O.L 132 zhD zhC (a0, a1, a2, a3, a4, ())
noncomputable abbrev zhn : LoopH := { key := 500, ht := [6, 25, 26, 27], hτ := (fs [yl, (.sl yg), ya, ya]), ex := 2, ot := [6], oτ := (fs [yl]) }
noncomputable def zhr : Code := Code.part (bodyOf 132) [1, 1, 1, 1, 0, 1, 0, 0]
noncomputable def zaj (O : Oracle E1) (a0 : Yg) (a1 : List Yg) (a2 : Int) (a3 : Int) : Option (Yx ⊕ Yk) := O.L 132 zhn zhr (a0, a1, a2, a3, ())
noncomputable abbrev zoK : LoopH := { key := 244, ht := [3, 4, 15, 16, 17], hτ := (fs [(.map ya), (.own yh), yi, ya, ya]), ex := 0, ot := [4], oτ := (fs [(.own yh)]) }
noncomputable def zpf : Code := Code.part (bodyOf 284) [1, 1, 1, 0, 1, 0, 0]
noncomputable def zeu (O : Oracle E1) (a0 : List (Int × Int)) (a1 : Yh) (a2 : Yh) (a3 : Int) (a4 : Int) : Option YE := O.L 284 zoK zpf (a0, a1, a2, a3, a4, ())
noncomputable abbrev znG : LoopH := { key := 125340, ht := [3, 4, 5, 15, 16, 17, 27, 28, 29], hτ := (fs [(.map ya), (.own yh), ya, yi, ya, ya, yc, ya, ya]), ex := 2, ot := [3, 4, 15, 16, 17], oτ := (fs [(.map ya), (.own yh), yi, ya, ya]) }
noncomputable def znV : Code := Code.part (bodyOf 284) [1, 1, 1, 0, 1, 0, 0, 1, 1, 0, 0, 1, 1, 1, 0, 0]
noncomputable def zc4 (O : Oracle E1) (a0 : List (Int × Int)) (a1 : Yh) (a2 : Int) (a3 : Yh) (a4 : Int) (a5 : Int) (a6 : Yb) (a7 : Int) (a8 : Int) : Option (YF ⊕ Yj) := O.L 284 znG znV (a0, a1, a2, a3, a4, a5, a6, a7, a8, ())
noncomputable abbrev zk9 : LoopH := { key := 116, ht := [0, 1, 12, 13], hτ := (fs [yc, yc, ya, ya]), ex := 0, ot := [], oτ := (fs []) }
noncomputable def zkT : Code := Code.part (bodyOf 235) [1, 1, 0, 1, 0, 0]
noncomputable def zbx (O : Oracle E1) (a0 : Yb) (a1 : Yb) (a2 : Int) (a3 : Int) : Option Yr := O.L 235 zk9 zkT (a0, a1, a2, a3, ())
noncomputable abbrev zdT : LoopH := { key := 52, ht := [0, 1, 7, 8], hτ := (fs [yg, (.fn 285 (fs [(.ptr yb)])), ya, ya]), ex := 0, ot := [], oτ := (fs []) }
noncomputable def zdS : Code := Code.part (bodyOf 197) [1, 0, 1, 0, 0]
noncomputable def zw (O : Oracle E1) (a0 : Yg) (a1 : Ya × Unit) (a2 : Int) (a3 : Int) : Option Yw := O.L 18743493 zdT zdS (a0, a1, a2, a3, ())
noncomputable abbrev zrt : LoopH := { key := 116, ht := [3, 6, 7, 8], hτ := (fs [yl, yg, ya, ya]), ex := 0, ot := [3], oτ := (fs [yl]) }
noncomputable def zqZ : Code := Code.part (bodyOf 257) [1, 1, 0, 1, 0, 0]
noncomputable def zdh (O : Oracle E1) (a0 : Yg) (a1 : Yg) (a2 : Int) (a3 : Int) : Option (Yx ⊕ Yk) := O.L 257 zrt zqZ (a0, a1, a2, a3, ())
noncomputable abbrev zqP : LoopH := { key := 116, ht := [1, 5, 8, 9, 10], hτ := (fs [ya, ya, yc, ya, ya]), ex := 0, ot := [5], oτ := (fs [ya]) }
noncomputable def zqO : Code := Code.part (bodyOf 298) [1, 1, 0, 1, 0, 0]
noncomputable def zfS (O : Oracle E1) (a0 : Int) (a1 : Int) (a2 : Yb) (a3 : Int) (a4 : Int) : Option (Yv ⊕ Ye) := O.L 298 zqP zqO (a0, a1, a2, a3, a4, ())
noncomputable abbrev znb : LoopH := { key := 52, ht := [0, 1, 6], hτ := (fs [yc, yc, ya]), ex := 0, ot := [], oτ := (fs []) }
noncomputable def zm9 : Code := Code.part (bodyOf 287) [1, 0, 1, 0, 0]
noncomputable def zcK (O : Oracle E1) (a0 : Yb) (a1 : Yb) (a2 : Int) : Option Yr := O.L 287 znb zm9 (a0, a1, a2, ())
noncomputable abbrev zm4 : LoopH := { key := 244, ht := [1, 23, 24, 25], hτ := (fs [yc, yc, ya, ya]), ex := 0, ot := [], oτ := (fs []) }
noncomputable def znw : Code := Code.part (bodyOf 258) [1, 1, 1, 0, 1, 0, 0]
noncomputable def zcH (O : Oracle E1) (a0 : Yb) (a1 : Yb) (a2 : Int) (a3 : Int) : Option Yr := O.L 258 zm4 znw (a0, a1, a2, a3, ())
noncomputable abbrev zej : LoopH := { key := 52, ht := [0, 1, 7, 8], hτ := (fs [yi, (.fn 299 yz), ya, ya]), ex := 0, ot := [], oτ := (fs []) }
noncomputable def zev : Code := Code.part (bodyOf 222) [1, 0, 1, 0, 0]
noncomputable def zD (O : Oracle E1) (a0 : Yh) (a1 : Yf) (a2 : Int) (a3 : Int) : Option Yw := O.L 19661022 zej zev (a0, a1, a2, a3, ())
noncomputable abbrev znz : LoopH := { key := 52, ht := [0, 7, 8, 9], hτ := (fs [yi, yi, ya, ya]), ex := 0, ot := [0], oτ := (fs [yi]) }
noncomputable def znZ : Code := Code.part (bodyOf 291) [1, 0, 1, 0, 0]
noncomputable def zda (O : Oracle E1) (a0 : Yh) (a1 : Yh) (a2 : Int) (a3 : Int) : Option ((Yh × Unit) ⊕ Yc) := O.L 291 znz znZ (a0, a1, a2, a3, ())
noncomputable abbrev zdN : LoopH := { key := 52, ht := [0, 1, 7, 8], hτ := (fs [yi, (.fn 289 yz), ya, ya]), ex := 0, ot := [], oτ := (fs []) }
noncomputable def zdO : Code := Code.part (bodyOf 222) [1, 0, 1, 0, 0]
noncomputable def zf (O : Oracle E1) (a0 : Yh) (a1 : Yf) (a2 : Int) (a3 : Int) : Option Yw := O.L 19005662 zdN zdO (a0, a1, a2, a3, ())
noncomputable abbrev zlV : LoopH := { key := 244, ht := [5, 6, 12, 13, 14], hτ := (fs [yn, yn, yi, ya, ya]), ex := 0, ot := [5, 6], oτ := (fs [yn, yn]) }
noncomputable def zl0 : Code := Code.part (bodyOf 259) [1, 1, 1, 0, 1, 0, 0]
noncomputable def zbO (O : Oracle E1) (a0 : Yh) (a1 : Yh) (a2 : Yh) (a3 : Int) (a4 : Int) : Option ((Yh × Yh × Unit) ⊕ Ye) := O.L 259 zlV zl0 (a0, a1, a2, a3, a4, ())
noncomputable abbrev znT : LoopH := { key := 52, ht := [0, 1, 7, 8, 9], hτ := (fs [yg, ya, yg, ya, ya]), ex := 0, ot := [], oτ := (fs []) }
noncomputable def znF : Code := Code.part (bodyOf 135) [1, 0, 1, 0, 0]
noncomputable def zbX (O : Oracle E1) (a0 : Yg) (a1 : Int) (a2 : Yg) (a3 : Int) (a4 : Int) : Option Yr := O.L 135 znT znF (a0, a1, a2, a3, a4, ())
noncomputable abbrev zot : LoopH := { key := 116, ht := [0, 1, 12, 13], hτ := (fs [yc, yc, ya, ya]), ex := 0, ot := [], oτ := (fs []) }
noncomputable def zod : Code := Code.part (bodyOf 40) [1, 1, 0, 1, 0, 0]
noncomputable def zdI (O : Oracle E1) (a0 : Yb) (a1 : Yb) (a2 : Int) (a3 : Int) : Option Yr := O.L 40 zot zod (a0, a1, a2, a3, ())
noncomputable abbrev zow : LoopH := { key := 116, ht := [0, 1, 12, 13], hτ := (fs [yg, yg, ya, ya]), ex := 0, ot := [], oτ := (fs []) }
noncomputable def zon : Code := Code.part (bodyOf 11) [1, 1, 0, 1, 0, 0]
noncomputable def zdA (O : Oracle E1) (a0 : Yg) (a1 : Yg) (a2 : Int) (a3 : Int) : Option Yr := O.L 11 zow zon (a0, a1, a2, a3, ())
noncomputable abbrev zoy : LoopH := { key := 116, ht := [3, 6, 7, 8], hτ := (fs [ya, yw, ya, ya]), ex := 0, ot := [3], oτ := (fs [ya]) }
noncomputable def zos : Code := Code.part (bodyOf 65) [1, 1, 0, 1, 0, 0]
noncomputable def zdD (O : Oracle E1) (a0 : Int) (a1 : Yb) (a2 : Int) (a3 : Int) : Option (Yv ⊕ Ye) := O.L 65 zoy zos (a0, a1, a2, a3, ())
noncomputable abbrev zol : LoopH := { key := 244, ht := [4, 5, 6, 21, 22, 23], hτ := (fs [yj, (.int .u64), yj, yc, ya, ya]), ex := 0, ot := [4, 6], oτ := (fs [yj, yj]) }
noncomputable def zoq : Code := Code.part (bodyOf 12) [1, 1, 1, 0, 1, 0, 0]
noncomputable def zdJ (O : Oracle E1) (a0 : Yp) (a1 : Int) (a2 : Yp) (a3 : Yb) (a4 : Int) (a5 : Int) : Option ((Yp × Yp × Unit) ⊕ YG) := O.L 12 zol zoq (a0, a1, a2, a3, a4, a5, ())
noncomputable abbrev znt : LoopH := { key := 125336, ht := [4, 5, 6, 8, 9, 21, 22, 23], hτ := (fs [yj, (.int .u64), yj, ya, ya, yc, ya, ya]), ex := 2, ot := [4, 5, 6, 9, 21, 22, 23], oτ := (fs [yj, (.int .u64), yj, ya, yc, ya, ya]) }
noncomputable def zm5 : Code := Code.part (bodyOf 12) [1, 1, 1, 0, 1, 0, 0, 1, 1, 0, 0, 1, 1, 0, 0, 0]
noncomputable def zcD (O : Oracle E1) (a0 : Yp) (a1 : Int) (a2 : Yp) (a3 : Int) (a4 : Int) (a5 : Yb) (a6 : Int) (a7 : Int) : Option ((Yp × Int × Yp × Int × Yb × Int × Int × Unit) ⊕ YG) := O.L 12 znt zm5 (a0, a1, a2, a3, a4, a5, a6, a7, ())
noncomputable abbrev zmL : LoopH := { key := 501368, ht := [4, 5, 6, 9, 10, 21, 22, 23], hτ := (fs [yj, (.int .u64), yj, ya, yh, yc, ya, ya]), ex := 4, ot := [4, 5, 6, 10, 21, 22, 23], oτ := (fs [yj, (.int .u64), yj, yh, yc, ya, ya]) }
noncomputable def zm1 : Code := Code.part (bodyOf 12) [1, 1, 1, 0, 1, 0, 0, 1, 1, 0, 0, 1, 1, 1, 1, 0, 0, 0]
noncomputable def zcm (O : Oracle E1) (a0 : Yp) (a1 : Int) (a2 : Yp) (a3 : Int) (a4 : Yb) (a5 : Yb) (a6 : Int) (a7 : Int) : Option ((Yp × Int × Yp × Yb × Yb × Int × Int × Unit) ⊕ YG) := O.L 12 zmL zm1 (a0, a1, a2, a3, a4, a5, a6, a7, ())
noncomputable abbrev zoO : LoopH := { key := 116, ht := [0, 5, 6, 7], hτ := (fs [ya, ya, ya, ya]), ex := 0, ot := [5], oτ := (fs [ya]) }
noncomputable def zpk : Code := Code.part (bodyOf 216) [1, 1, 0, 1, 0, 0]
noncomputable def zek (O : Oracle E1) (a0 : Int) (a1 : Int) (a2 : Int) (a3 : Int) : Option (Yv ⊕ Ye) := O.L 216 zoO zpk (a0, a1, a2, a3, ())
noncomputable abbrev zeG : LoopH := { key := 52, ht := [0, 1, 7, 8], hτ := (fs [yc, (.fn 266 yy), ya, ya]), ex := 0, ot := [], oτ := (fs []) }
noncomputable def zeB : Code := Code.part (bodyOf 226) [1, 0, 1, 0, 0]
noncomputable def zH (O : Oracle E1) (a0 : Yb) (a1 : Yv) (a2 : Int) (a3 : Int) : Option Yw := O.L 17498338 zeG zeB (a0, a1, a2, a3, ())
noncomputable abbrev zmy : LoopH := { key := 116, ht := [2, 3, 21, 22, 23], hτ := (fs [yk, (.box yo), yi, ya, ya]), ex := 0, ot := [], oτ := (fs []) }
noncomputable def zmv : Code := Code.part (bodyOf 148) [1, 1, 0, 1, 0, 0]
noncomputable def zb7 (O : Oracle E1) (a0 : Yf) (a1 : Yp) (a2 : Yh) (a3 : Int) (a4 : Int) : Option Yr := O.L 148 zmy zmv (a0, a1, a2, a3, a4, ())
noncomputable abbrev znd : LoopH := { key := 500, ht := [2, 4, 5, 6, 12, 13, 14, 33, 34], hτ := (fs [yc, yc, yk, (.box yo), ya, ya, ya, ya, ya]), ex := 0, ot := [6, 12, 13, 14], oτ := (fs [(.box yo), ya, ya, ya]) }
noncomputable def zm7 : Code := Code.part (bodyOf 267) [1, 1, 1, 1, 0, 1, 0, 0]
noncomputable def zcI (O : Oracle E1) (a0 : Yb) (a1 : Yb) (a2 : Yf) (a3 : Yp) (a4 : Int) (a5 : Int) (a6 : Int) (a7 : Int) (a8 : Int) : Option ((Yp × Int × Int × Int × Unit) ⊕ ((Int × Int × Unit) × (Unit))) := O.L 267 znd zm7 (a0, a1, a2, a3, a4, a5, a6, a7, a8, ())
noncomputable abbrev zcy : LoopH := { key := 52, ht := [0, 1, 7, 8], hτ := (fs [yg, (.fn 218 yx), ya, ya]), ex := 0, ot := [], oτ := (fs []) }
noncomputable def zcA : Code := Code.part (bodyOf 197) [1, 0, 1, 0, 0]
noncomputable def zl (O : Oracle E1) (a0 : Yg) (a1 : Yf × Yp × Yb × Unit) (a2 : Int) (a3 : Int) : Option Yw := O.L 14352581 zcy zcA (a0, a1, a2, a3, ())
noncomputable abbrev zmw : LoopH := { key := 60, ht := [2, 3, 4, 8, 9], hτ := (fs [yg, yk, (.box yo), yh, yh]), ex := 999, ot := [], oτ := (fs []) }
noncomputable def zmr : Code := Code.part (bodyOf 68) [1, 1, 1, 0, 0]
noncomputable def za0 (O : Oracle E1) (a0 : Yg) (a1 : Yf) (a2 : Yp) (a3 : Yb) (a4 : Yb) : Option ((Unit) ⊕ Yq) := O.L 68 zmw zmr (a0, a1, a2, a3, a4, ())
noncomputable abbrev zlH : LoopH := { key := 3864, ht := [2, 3, 4, 8, 9, 10], hτ := yA, ex := 2, ot := [2, 3, 4, 8, 9, 10], oτ := yA }
noncomputable def zlF : Code := Code.part (bodyOf 68) [1, 1, 1, 0, 0, 0, 1, 1, 0, 0, 0]
noncomputable def zbE (O : Oracle E1) (a0 : Yg) (a1 : Yf) (a2 : Yp) (a3 : Yb) (a4 : Yb) (a5 : Int) : Option ((Yg × Yf × Yp × Yb × Yb × Int × Unit) ⊕ Yq) := O.L 68 zlH zlF (a0, a1, a2, a3, a4, a5, ())
noncomputable abbrev zlW : LoopH := { key := 116, ht := [1, 2, 3, 7, 19, 20], hτ := (fs [yg, yg, yk, yq, ya, ya]), ex := 0, ot := [7], oτ := (fs [yq]) }
noncomputable def zl7 : Code := Code.part (bodyOf 70) [1, 1, 0, 1, 0, 0]
noncomputable def zbP (O : Oracle E1) (a0 : Yg) (a1 : Yg) (a2 : Yf) (a3 : List Yd) (a4 : Int) (a5 : Int) : Option (((List Yd) × Unit) ⊕ Yl) := O.L 70 zlW zl7 (a0, a1, a2, a3, a4, a5, ())
noncomputable abbrev zkH : LoopH := { key := 29900, ht := [1, 2, 3, 7, 8, 19, 20, 23], hτ := (fs [yg, yg, yk, yq, ya, ya, ya, ya]), ex := 2, ot := [1, 2, 3, 7, 19, 20], oτ := (fs [yg, yg, yk, yq, ya, ya]) }
noncomputable def zkP : Code := Code.part (bodyOf 70) [1, 1, 0, 1, 0, 0, 1, 1, 0, 0, 1, 1, 0, 0]
noncomputable def zbn (O : Oracle E1) (a0 : Yg) (a1 : Yg) (a2 : Yf) (a3 : List Yd) (a4 : Int) (a5 : Int) (a6 : Int) (a7 : Int) : Option YC := O.L 70 zkH zkP (a0, a1, a2, a3, a4, a5, a6, a7, ())
noncomputable abbrev zjP : LoopH := { key := 7654604, ht := [1, 2, 3, 7, 8, 9, 19, 20, 23, 27, 28], hτ := (fs [yg, yg, yk, yq, ya, ya, ya, ya, ya, ya, ya]), ex := 4, ot := [1, 2, 3, 7, 8, 19, 20, 23], oτ := (fs [yg, yg, yk, yq, ya, ya, ya, ya]) }
noncomputable def zjO : Code := Code.part (bodyOf 70) [1, 1, 0, 1, 0, 0, 1, 1, 0, 0, 1, 1, 0, 0, 1, 1, 0, 0, 1, 1, 0, 0]
noncomputable def zbc (O : Oracle E1) (a0 : Yg) (a1 : Yg) (a2 : Yf) (a3 : List Yd) (a4 : Int) (a5 : Int) (a6 : Int) (a7 : Int) (a8 : Int) (a9 : Int) (a10 : Int) : Option Yy := O.L 70 zjP zjO (a0, a1, a2, a3, a4, a5, a6, a7, a8, a9, a10, ())
noncomputable abbrev zjb : LoopH := { key := 1959578828, ht := [1, 2, 3, 7, 8, 9, 10, 19, 20, 23, 27, 28, 31], hτ := (fs [yg, yg, yk, yq, ya, ya, ya, ya, ya, ya, ya, ya, ya]), ex := 6, ot := [1, 2, 3, 7, 8, 9, 19, 20, 23, 27, 28], oτ := (fs [yg, yg, yk, yq, ya, ya, ya, ya, ya, ya, ya]) }
noncomputable def zjc : Code := Code.part (bodyOf 70) [1, 1, 0, 1, 0, 0, 1, 1, 0, 0, 1, 1, 0, 0, 1, 1, 0, 0, 1, 1, 0, 0, 1, 1, 0, 0, 1, 1, 0, 0]
noncomputable def zaX (O : Oracle E1) (a0 : Yg) (a1 : Yg) (a2 : Yf) (a3 : List Yd) (a4 : Int) (a5 : Int) (a6 : Int) (a7 : Int) (a8 : Int) (a9 : Int) (a10 : Int) (a11 : Int) (a12 : Int) : Option ((Yg × Yg × Yf × (List Yd) × Int × Int × Int × Int × Int × Int × Int × Unit) ⊕ Yl) := O.L 70 zjb zjc (a0, a1, a2, a3, a4, a5, a6, a7, a8, a9, a10, a11, a12, ())
noncomputable abbrev zil : LoopH := { key := 1003304360348, ht := [1, 2, 3, 7, 8, 9, 10, 11, 19, 20, 23, 27, 28, 31, 44, 45], hτ := (fs [yg, yg, yk, yq, ya, ya, ya, ya, ya, ya, ya, ya, ya, ya, ya, ya]), ex := 8, ot := [1, 2, 3, 7, 8, 9, 10, 19, 20, 23, 27, 28, 31], oτ := (fs [yg, yg, yk, yq, ya, ya, ya, ya, ya, ya, ya, ya, ya]) }
noncomputable def zib : Code := Code.part (bodyOf 70) [1, 1, 0, 1, 0, 0, 1, 1, 0, 0, 1, 1, 0, 0, 1, 1, 0, 0, 1, 1, 0, 0, 1, 1, 0, 0, 1, 1, 0, 0, 1, 1, 0, 0, 1, 1, 1, 0, 0]
noncomputable def zaD (O : Oracle E1) (a0 : Yg) (a1 : Yg) (a2 : Yf) (a3 : List Yd) (a4 : Int) (a5 : Int) (a6 : Int) (a7 : Int) (a8 : Int) (a9 : Int) (a10 : Int) (a11 : Int) (a12 : Int) (a13 : Int) (a14 : Int) (a15 : Int) : Option (YB ⊕ Yl) := O.L 70 zil zib (a0, a1, a2, a3, a4, a5, a6, a7, a8, a9, a10, a11, a12, a13, a14, a15, ())
noncomputable abbrev zsp : LoopH := { key := 52, ht := [1, 7, 8, 9], hτ := (fs [ya, yc, ya, ya]), ex := 0, ot := [], oτ := (fs []) }
noncomputable def zsh : Code := Code.part (bodyOf 20) [1, 0, 1, 0, 0]
noncomputable def zg3 (O : Oracle E1) (a0 : Int) (a1 : Yb) (a2 : Int) (a3 : Int) : Option Yr := O.L 20 zsp zsh (a0, a1, a2, a3, ())
noncomputable abbrev zkS : LoopH := { key := 65524, ht := [22, 23, 24, 25, 27, 166, 167], hτ := (fs [yk, yl, yl, yq, yq, ya, ya]), ex := 0, ot := [22, 23, 24], oτ := (fs [yk, yl, yl]) }
noncomputable def zlk : Code := Code.part (bodyOf 3) [1, 1, 1, 1, 1, 1, 1, 1, 1, 1, 1, 0, 1, 0, 0]
noncomputable def za3 (O : Oracle E1) (a0 : Yf) (a1 : Yg) (a2 : Yg) (a3 : List Yd) (a4 : List Yd) (a5 : Int) (a6 : Int) : Option (YK ⊕ Yc) := O.L 3 zkS zlk (a0, a1, a2, a3, a4, a5, a6, ())
noncomputable abbrev zjM : LoopH := { key := 33554108, ht := [39, 242, 243, 244], hτ := (fs [yh, yh, ya, ya]), ex := 2, ot := [], oτ := (fs []) }
noncomputable def zjN : Code := Code.part (bodyOf 3) [1, 1, 1, 1, 1, 1, 1, 1, 1, 1, 1, 1, 1, 1, 1, 0, 1, 0, 1, 1, 1, 1, 0, 0]
noncomputable def zaG (O : Oracle E1) (a0 : Yb) (a1 : Yb) (a2 : Int) (a3 : Int) : Option Yr := O.L 3 zjM zjN (a0, a1, a2, a3, ())
end Go.Proofs.YtenknihdnkiplaaGreatSs.Ev
