/- A text of its own: Nm; no condition but those that each theorem names. -/
import Derived.Test.YtpmjpijpjmphnaaGreatWiEnv
import Derived.Test.YtpmjpijpjmphnaaGreatWiEvWt
/- The functions' names, at every oracle: printed by sym.py; no condition. -/
namespace Go.Proofs.YtpmjpijpjmphnaaGreatWi.Ev
open Go Go.IntKind
set_option maxRecDepth 100000
set_option autoImplicit false
set_option linter.unusedVariables false

abbrev Ya := Bool × (List Int) × (List Int) × Unit
abbrev Yb := List Int
abbrev Yc := Int × Int × Int × Int × Int × Unit
abbrev Yd := (Bool × Unit) × (Unit)
abbrev Ye := (Int × Unit) × (Unit)
abbrev Yf := Yb × Unit
abbrev Yg := ((List Yb) × Unit) × (Unit)
abbrev Yh := List Ya
abbrev Yi := (Yh × Unit) × (Unit)
abbrev Yj := List Yb
abbrev Yk := ((List Yc) × Unit) × (Unit)
abbrev Yl := Yf × (Unit)
abbrev Ym := (Yj × Bool × Unit) × (Unit)
abbrev Yn := (Yh × Bool × Unit) × (Unit)
abbrev Yo := Yf × Yc × Yb × Yb × Yb × Yb × Yj × Yh × Yh × Yh × Unit
abbrev Yp := (Yh × Int × Unit) × (Unit)
abbrev Yq := Int × Unit
abbrev Yr := (Unit) ⊕ Yd
abbrev Ys := (Yh × Unit) ⊕ Yi
abbrev Yt := (Yh × Yh × Yf × (List Yc) × Int × Int × Int × Int × Unit) ⊕ Yk
abbrev Yu := Yh × Yh × Yf × (List Yc) × Int × Int × Int × Ya × Int × Int × Int × Yh × Int × Int × Unit
abbrev Yv := Yb × Yb × Yf × Yj × Int × Yb × Unit
abbrev Yw := Yh × Yh × Yf × (List Yc) × Int × Int × Int × Int × Int × Int × Int × Int × Int × Unit
abbrev Yx := (Unit) ⊕ Ye
abbrev Yy := (Yh × Yh × Yf × (List Yc) × Int × Int × Unit) ⊕ Yk
abbrev Yz := Option (Bool × List Int)
abbrev YA := (Yj × Unit) ⊕ Yg
abbrev YB := (List (Int × Int)) × Yj × Yj × Int × Int × Unit
abbrev YC := Yb × Yj × Yb × Int × Yj × Int × Int × Yb × Int × Int × Unit
abbrev YD := Yf ⊕ Yl
abbrev YE := (Yb × Bool × Unit) × (Unit)
abbrev YF := List Yc
abbrev YG := ((List (Int × Int)) × Yj × Int × Yj × Int × Int × Yb × Int × Int × Unit) ⊕ (YB ⊕ (Yg))
abbrev YH := Yj × Yj × Yb × Int × Yj × Int × Int × Unit
noncomputable abbrev M : Oracle E1 := Lm E1
noncomputable def c_laws_szIntS (O : Oracle E1) (a0 : Yb) (a1 : Int) : Option Ye := O.C 70 (a0, a1, ())
noncomputable def c_laws_szSign (O : Oracle E1) (a0 : Yf) (a1 : Int) : Option Ye := O.C 9 (a0, a1, ())
noncomputable def c_laws_szLit (O : Oracle E1) (a0 : Ya) (a1 : Int) : Option Ye := O.C 71 (a0, a1, ())
noncomputable def c_laws_szLitS (O : Oracle E1) (a0 : Yh) (a1 : Int) : Option Ye := O.C 10 (a0, a1, ())
noncomputable def c_laws_toIntS (O : Oracle E1) (a0 : Yb) : Option Yl := O.C 75 (a0, ())
noncomputable def c_laws_toSign (O : Oracle E1) (a0 : Yf) : Option ((Yf × Unit) × (Unit)) := O.C 12 (a0, ())
noncomputable def c_laws_toLit (O : Oracle E1) (a0 : Ya) : Option ((Ya × Unit) × (Unit)) := O.C 76 (a0, ())
noncomputable def c_laws_toLitS (O : Oracle E1) (a0 : Yh) : Option Yi := O.C 13 (a0, ())
noncomputable def c_laws_eqIntS (O : Oracle E1) (a0 : Yb) (a1 : Yb) : Option Yd := O.C 81 (a0, a1, ())
noncomputable def c_laws_eqLit (O : Oracle E1) (a0 : Ya) (a1 : Ya) : Option Yd := O.C 80 (a0, a1, ())
noncomputable def c_laws_eqLitS (O : Oracle E1) (a0 : Yh) (a1 : Yh) : Option Yd := O.C 16 (a0, a1, ())
noncomputable def c_laws_eqSign (O : Oracle E1) (a0 : Yf) (a1 : Yf) : Option Yd := O.C 17 (a0, a1, ())
noncomputable def c_laws_markIntS (O : Oracle E1) (a0 : Yb) (a1 : Int) : Option (Yq × Yf) := O.C 82 (a0, a1, ())
noncomputable def c_laws_markSign (O : Oracle E1) (a0 : Yf) (a1 : Int) : Option (Yq × (Yf × Unit)) := O.C 18 (a0, a1, ())
noncomputable def c_laws_markLitS (O : Oracle E1) (a0 : Yh) (a1 : Int) : Option (Yq × (Yh × Unit)) := O.C 19 (a0, a1, ())
noncomputable def c_spec_l1In (O : Oracle E1) (a0 : Int) (a1 : Int) (a2 : Int) : Option Yd := O.C 134 (a0, a1, a2, ())
noncomputable def c_spec_l1End (O : Oracle E1) (a0 : Yf) (a1 : Yb) (a2 : Int) : Option Ye := O.C 206 (a0, a1, a2, ())
noncomputable def c_spec_l1Term (O : Oracle E1) (a0 : Yf) (a1 : Yb) : Option Yd := O.C 203 (a0, a1, ())
noncomputable def c_spec_l4Lit (O : Oracle E1) (a0 : Yf) (a1 : Ya) : Option Yd := O.C 136 (a0, a1, ())
noncomputable def c_spec_l4Clause (O : Oracle E1) (a0 : Yf) (a1 : Yh) : Option Yd := O.C 73 (a0, a1, ())
noncomputable def c_spec_l1All (O : Oracle E1) (a0 : Yb) (a1 : Int) (a2 : Int) : Option Yd := O.C 202 (a0, a1, a2, ())
noncomputable def c_spec_GoodSign (O : Oracle E1) (a0 : Yf) : Option Yd := O.C 135 (a0, ())
noncomputable def c_spec_GoodClause (O : Oracle E1) (a0 : Yf) (a1 : Yh) : Option Yd := O.C 72 (a0, a1, ())
noncomputable def c_spec_l1Put (O : Oracle E1) (a0 : Yb) (a1 : Int) : Option Yl := O.C 269 (a0, a1, ())
noncomputable def c_spec_l1Vars (O : Oracle E1) (a0 : Yb) : Option Yl := O.C 268 (a0, ())
noncomputable def c_spec_l4Vars (O : Oracle E1) (a0 : Yh) : Option Yl := O.C 237 (a0, ())
noncomputable def c_spec_l6Shift (O : Oracle E1) (a0 : Yh) : Option Ye := O.C 184 (a0, ())
noncomputable def c_spec_l1Own (O : Oracle E1) (a0 : Yb) : Option Yl := O.C 92 (a0, ())
noncomputable def c_spec_l1Shift (O : Oracle E1) (a0 : Yb) (a1 : Int) : Option Yl := O.C 185 (a0, a1, ())
noncomputable def c_spec_l4Made (O : Oracle E1) (a0 : Yf) (a1 : Yh) : Option Yn := O.C 186 (a0, a1, ())
noncomputable def c_spec_l6Apart (O : Oracle E1) (a0 : Yf) (a1 : Yh) (a2 : Yh) : Option Yn := O.C 116 (a0, a1, a2, ())
noncomputable def c_spec_l6Lit (O : Oracle E1) (a0 : Yh) (a1 : Int) (a2 : Int) : Option Yd := O.C 137 (a0, a1, a2, ())
noncomputable def c_spec_l6Sides (O : Oracle E1) (a0 : Ya) (a1 : Int) : Option ((Yb × Yb × Unit) × (Unit)) := O.C 138 (a0, a1, ())
noncomputable def c_spec_l1Has (O : Oracle E1) (a0 : Yb) (a1 : Int) : Option Yd := O.C 131 (a0, a1, ())
noncomputable def c_spec_l1Part (O : Oracle E1) (a0 : Yf) (a1 : Yb) (a2 : Int) : Option Yl := O.C 140 (a0, a1, a2, ())
noncomputable def c_spec_l2Apply (O : Oracle E1) (a0 : Yj) (a1 : Yb) : Option Yl := O.C 142 (a0, a1, ())
noncomputable def c_spec_l2Sizes (O : Oracle E1) (a0 : Yf) (a1 : Yj) (a2 : Yb) (a3 : Yb) : Option Yd := O.C 204 (a0, a1, a2, a3, ())
noncomputable def c_spec_l2Bind (O : Oracle E1) (a0 : Yj) (a1 : Int) (a2 : Yb) : Option Yg := O.C 205 (a0, a1, a2, ())
noncomputable def c_spec_l2Unify (O : Oracle E1) (a0 : Yf) (a1 : Yb) (a2 : Yb) : Option Ym := O.C 139 (a0, a1, a2, ())
noncomputable def c_spec_l4Apply (O : Oracle E1) (a0 : Yj) (a1 : Yh) : Option Yi := O.C 141 (a0, a1, ())
noncomputable def c_spec_l1Replace (O : Oracle E1) (a0 : Yf) (a1 : Yb) (a2 : Int) (a3 : Yb) : Option Yl := O.C 143 (a0, a1, a2, a3, ())
noncomputable def c_spec_l1Same (O : Oracle E1) (a0 : Yb) (a1 : Yb) : Option Yd := O.C 253 (a0, a1, ())
noncomputable def c_spec_l1Count (O : Oracle E1) (a0 : Yb) (a1 : Int) : Option Ye := O.C 287 (a0, a1, ())
noncomputable def c_spec_l3Weighs (O : Oracle E1) (a0 : Yb) (a1 : Yb) : Option Yd := O.C 277 (a0, a1, ())
noncomputable def c_spec_l3Greater (O : Oracle E1) (a0 : Yb) (a1 : Yb) : Option Yd := O.C 254 (a0, a1, ())
noncomputable def c_spec_l3Compare (O : Oracle E1) (a0 : Yb) (a1 : Yb) : Option Ye := O.C 207 (a0, a1, ())
noncomputable def c_spec_l6Over (O : Oracle E1) (a0 : Yb) (a1 : Yb) : Option Yd := O.C 144 (a0, a1, ())
noncomputable def c_spec_l3Left (O : Oracle E1) (a0 : Yj) (a1 : Yj) : Option Yg := O.C 255 (a0, a1, ())
noncomputable def c_spec_l3Over (O : Oracle E1) (a0 : Yj) (a1 : Yj) : Option Yd := O.C 256 (a0, a1, ())
noncomputable def c_spec_l3Lists (O : Oracle E1) (a0 : Yj) (a1 : Yj) : Option Ye := O.C 208 (a0, a1, ())
noncomputable def c_spec_l4List (O : Oracle E1) (a0 : Ya) : Option Yg := O.C 209 (a0, ())
noncomputable def c_spec_l4Maximal (O : Oracle E1) (a0 : Yh) (a1 : Int) : Option Yd := O.C 145 (a0, a1, ())
noncomputable def c_spec_l2Rename (O : Oracle E1) (a0 : Yj) : Option Yg := O.C 257 (a0, ())
noncomputable def c_spec_l4Terms (O : Oracle E1) (a0 : Yh) : Option Yg := O.C 258 (a0, ())
noncomputable def c_spec_l4Rename (O : Oracle E1) (a0 : Yh) : Option Yi := O.C 210 (a0, ())
noncomputable def c_spec_l4Own (O : Oracle E1) (a0 : Yh) : Option Yi := O.C 133 (a0, ())
noncomputable def c_spec_l4SameTerms (O : Oracle E1) (a0 : Ya) (a1 : Ya) : Option Yd := O.C 259 (a0, a1, ())
noncomputable def c_spec_l4Tidy (O : Oracle E1) (a0 : Yh) : Option Yi := O.C 211 (a0, ())
noncomputable def c_spec_l6Out (O : Oracle E1) (a0 : Yh) : Option Yi := O.C 146 (a0, ())
noncomputable def c_spec_l6Super (O : Oracle E1) (a0 : Yf) (a1 : Yh) (a2 : Yh) (a3 : Yc) : Option Yp := O.C 74 (a0, a1, a2, a3, ())
noncomputable def c_spec_l6Ways (O : Oracle E1) (a0 : Yf) (a1 : Yh) (a2 : Yh) : Option Yk := O.C 103 (a0, a1, a2, ())
noncomputable def c_spec_WaysInto (O : Oracle E1) (a0 : Yf) (a1 : Yh) (a2 : Yh) : Option ((YF × Bool × Unit) × (Unit)) := O.C 38 (a0, a1, a2, ())
noncomputable def c_impl_Sign_args (O : Oracle E1) (a0 : Yf) (a1 : Int) : Option Ye := O.C 260 (a0, a1, ())
noncomputable def c_impl_Sign_isTerm (O : Oracle E1) (a0 : Yf) (a1 : Yb) : Option Yd := O.C 213 (a0, a1, ())
noncomputable def c_impl_Sign_isLit (O : Oracle E1) (a0 : Yf) (a1 : Ya) : Option Yd := O.C 149 (a0, a1, ())
noncomputable def c_impl_Sign_isClause_1 (O : Oracle E1) (a0 : Ya) (a1 : Yf) : Option Yd := O.C 148 (a0, a1, ())
noncomputable def c_slices_IndexFunc_impl_Lit_impl_Lit__impl_Sign_isClause_1 (O : Oracle E1) (a0 : Yh) (a1 : Yf × Unit) : Option Ye := O.C 9765076 (a0, a1, ())
noncomputable def c_slices_ContainsFunc_impl_Lit_impl_Lit__impl_Sign_isClause_1 (O : Oracle E1) (a0 : Yh) (a1 : Yf × Unit) : Option Yd := O.C 9765011 (a0, a1, ())
noncomputable def c_impl_Sign_isClause (O : Oracle E1) (a0 : Yf) (a1 : Yh) : Option Yd := O.C 78 (a0, a1, ())
noncomputable def c_impl_GoodSign_1 (O : Oracle E1) (a0 : Int) : Option Yd := O.C 194 (a0, ())
noncomputable def c_slices_IndexFunc_int_int__impl_GoodSign_1 (O : Oracle E1) (a0 : Yb) (a1 : Unit) : Option Ye := O.C 12779767 (a0, a1, ())
noncomputable def c_slices_ContainsFunc_int_int__impl_GoodSign_1 (O : Oracle E1) (a0 : Yb) (a1 : Unit) : Option Yd := O.C 12779713 (a0, a1, ())
noncomputable def c_impl_GoodSign (O : Oracle E1) (a0 : Yf) : Option Yd := O.C 125 (a0, ())
noncomputable def c_impl_GoodClause (O : Oracle E1) (a0 : Yf) (a1 : Yh) : Option Yd := O.C 77 (a0, a1, ())
noncomputable def c_slices_Index_int_int (O : Oracle E1) (a0 : Yb) (a1 : Int) : Option Ye := O.C 239 (a0, a1, ())
noncomputable def c_slices_Contains_int_int (O : Oracle E1) (a0 : Yb) (a1 : Int) : Option Yd := O.C 189 (a0, a1, ())
noncomputable def c_impl_varsIn_1 (O : Oracle E1) (a0 : Yb) (a1 : Int) : Option Yd := O.C 188 (a0, a1, ())
noncomputable def c_slices_IndexFunc_SS_int_int__impl_varsIn_1 (O : Oracle E1) (a0 : Yj) (a1 : Yq) : Option Ye := O.C 12386542 (a0, a1, ())
noncomputable def c_slices_ContainsFunc_SS_int_int__impl_varsIn_1 (O : Oracle E1) (a0 : Yj) (a1 : Yq) : Option Yd := O.C 12386491 (a0, a1, ())
noncomputable def c_impl_varsIn (O : Oracle E1) (a0 : Yj) : Option Yl := O.C 117 (a0, ())
noncomputable def c_impl_termsOf (O : Oracle E1) (a0 : Yh) : Option Yg := O.C 118 (a0, ())
noncomputable def c_impl_shift (O : Oracle E1) (a0 : Yb) (a1 : Int) : Option Yl := O.C 181 (a0, a1, ())
noncomputable def c_impl_Sign_areTerms_1 (O : Oracle E1) (a0 : Yb) (a1 : Yf) : Option Yd := O.C 236 (a0, a1, ())
noncomputable def c_slices_IndexFunc_SS_int_int__impl_Sign_areTerms_1 (O : Oracle E1) (a0 : Yj) (a1 : Yf × Unit) : Option Ye := O.C 15532270 (a0, a1, ())
noncomputable def c_slices_ContainsFunc_SS_int_int__impl_Sign_areTerms_1 (O : Oracle E1) (a0 : Yj) (a1 : Yf × Unit) : Option Yd := O.C 15532219 (a0, a1, ())
noncomputable def c_impl_Sign_areTerms (O : Oracle E1) (a0 : Yf) (a1 : Yj) : Option Yd := O.C 182 (a0, a1, ())
noncomputable def c_impl_withTerms (O : Oracle E1) (a0 : Yh) (a1 : Yj) : Option Yi := O.C 183 (a0, a1, ())
noncomputable def c_impl_Sign_apart (O : Oracle E1) (a0 : Yf) (a1 : Yh) (a2 : Yh) : Option Yn := O.C 115 (a0, a1, a2, ())
noncomputable def c_impl_hasLit (O : Oracle E1) (a0 : Yh) (a1 : Int) (a2 : Bool) : Option Yd := O.C 150 (a0, a1, a2, ())
noncomputable def c_impl_isSide (O : Oracle E1) (a0 : Int) : Option Yd := O.C 151 (a0, ())
noncomputable def c_impl_Lit_side (O : Oracle E1) (a0 : Ya) (a1 : Int) : Option ((Yb × Yb × Unit) × (Unit)) := O.C 152 (a0, a1, ())
noncomputable def c_impl_Sign_end (O : Oracle E1) (a0 : Yf) (a1 : Yb) (a2 : Int) : Option Ye := O.C 214 (a0, a1, a2, ())
noncomputable def c_impl_Sign_part (O : Oracle E1) (a0 : Yf) (a1 : Yb) (a2 : Int) : Option Yl := O.C 154 (a0, a1, a2, ())
noncomputable def c_impl_apply (O : Oracle E1) (a0 : Yj) (a1 : Yb) : Option YE := O.C 156 (a0, a1, ())
noncomputable def c_impl_Sign_unify (O : Oracle E1) (a0 : Yf) (a1 : Yb) (a2 : Yb) : Option Ym := O.C 153 (a0, a1, a2, ())
noncomputable def c_impl_applyClause (O : Oracle E1) (a0 : Yj) (a1 : Yh) : Option Yn := O.C 155 (a0, a1, ())
noncomputable def c_slices_Concat_int_int (O : Oracle E1) (a0 : Yj) : Option Yl := O.C 215 (a0, ())
noncomputable def c_impl_Sign_replace (O : Oracle E1) (a0 : Yf) (a1 : Yb) (a2 : Int) (a3 : Yb) : Option Yl := O.C 157 (a0, a1, a2, a3, ())
noncomputable def c_slices_Concat_impl_Lit_impl_Lit (O : Oracle E1) (a0 : List Yh) : Option Yi := O.C 158 (a0, ())
noncomputable def c_impl_rename (O : Oracle E1) (a0 : Yj) : Option Yg := O.C 278 (a0, ())
noncomputable def c_impl_renameClause (O : Oracle E1) (a0 : Yh) : Option Yi := O.C 262 (a0, ())
noncomputable def c_impl_copyLit (O : Oracle E1) (a0 : Ya) : Option ((Ya × Unit) × (Unit)) := O.C 198 (a0, ())
noncomputable def c_slices_Equal_int_int (O : Oracle E1) (a0 : Yb) (a1 : Yb) : Option Yd := O.C 264 (a0, a1, ())
noncomputable def c_impl_sameSides (O : Oracle E1) (a0 : Ya) (a1 : Ya) : Option Yd := O.C 280 (a0, a1, ())
noncomputable def c_impl_tidy_1 (O : Oracle E1) (a0 : Ya) (a1 : Ya) : Option Yd := O.C 279 (a0, a1, ())
noncomputable def c_slices_IndexFunc_impl_Lit_impl_Lit__impl_tidy_1 (O : Oracle E1) (a0 : Yh) (a1 : Ya × Unit) : Option Ye := O.C 18350292 (a0, a1, ())
noncomputable def c_slices_ContainsFunc_impl_Lit_impl_Lit__impl_tidy_1 (O : Oracle E1) (a0 : Yh) (a1 : Ya × Unit) : Option Yd := O.C 18350227 (a0, a1, ())
noncomputable def c_impl_tidy (O : Oracle E1) (a0 : Yh) : Option Yi := O.C 263 (a0, ())
noncomputable def c_impl_concluded (O : Oracle E1) (a0 : Yh) : Option Yi := O.C 217 (a0, ())
noncomputable def c_impl_inOrder (O : Oracle E1) (a0 : Yh) (a1 : Bool) : Option Yp := O.C 159 (a0, a1, ())
noncomputable def c_impl_count (O : Oracle E1) (a0 : Yb) (a1 : Int) : Option Ye := O.C 288 (a0, a1, ())
noncomputable def c_impl_coversVars (O : Oracle E1) (a0 : Yb) (a1 : Yb) : Option Yd := O.C 281 (a0, a1, ())
noncomputable def c_impl_isGreater (O : Oracle E1) (a0 : Yb) (a1 : Yb) : Option Yd := O.C 265 (a0, a1, ())
noncomputable def c_impl_compareTerms (O : Oracle E1) (a0 : Yb) (a1 : Yb) : Option Ye := O.C 218 (a0, a1, ())
noncomputable def c_impl_isBelow (O : Oracle E1) (a0 : Yb) (a1 : Yb) : Option Yd := O.C 160 (a0, a1, ())
noncomputable def c_slices_Delete_SS_int_int (O : Oracle E1) (a0 : Yj) (a1 : Int) (a2 : Int) : Option Yg := O.C 284 (a0, a1, a2, ())
noncomputable def c_impl_isCovered_1 (O : Oracle E1) (a0 : Yb) (a1 : Yb) : Option Yd := O.C 289 (a0, a1, ())
noncomputable def c_slices_IndexFunc_SS_int_int__impl_isCovered_1 (O : Oracle E1) (a0 : Yj) (a1 : Yf) : Option Ye := O.C 19005678 (a0, a1, ())
noncomputable def c_slices_ContainsFunc_SS_int_int__impl_isCovered_1 (O : Oracle E1) (a0 : Yj) (a1 : Yf) : Option Yd := O.C 19005627 (a0, a1, ())
noncomputable def c_impl_isCovered (O : Oracle E1) (a0 : Yj) (a1 : Yj) : Option Yd := O.C 285 (a0, a1, ())
noncomputable def c_impl_compareLists_1 (O : Oracle E1) (a0 : Yb) (a1 : Yb) : Option Yd := O.C 283 (a0, a1, ())
noncomputable def c_slices_IndexFunc_SS_int_int__impl_compareLists_1 (O : Oracle E1) (a0 : Yj) (a1 : Yf) : Option Ye := O.C 18612462 (a0, a1, ())
noncomputable def c_impl_compareLists (O : Oracle E1) (a0 : Yj) (a1 : Yj) : Option Ye := O.C 266 (a0, a1, ())
noncomputable def c_impl_Lit_listOf (O : Oracle E1) (a0 : Ya) : Option Yg := O.C 267 (a0, ())
noncomputable def c_impl_compareLits (O : Oracle E1) (a0 : Ya) (a1 : Ya) : Option Ye := O.C 219 (a0, a1, ())
noncomputable def c_impl_isMaximal (O : Oracle E1) (a0 : Yh) (a1 : Int) : Option Yd := O.C 161 (a0, a1, ())
noncomputable def c_impl_Sign_superpose (O : Oracle E1) (a0 : Yf) (a1 : Yh) (a2 : Yh) (a3 : Yc) : Option Yp := O.C 79 (a0, a1, a2, a3, ())
noncomputable def c_impl_Sign_waysInto (O : Oracle E1) (a0 : Yf) (a1 : Yh) (a2 : Yh) : Option Yk := O.C 104 (a0, a1, a2, ())
noncomputable def c_impl_WaysInto (O : Oracle E1) (a0 : Yf) (a1 : Yh) (a2 : Yh) : Option ((YF × Bool × Unit) × (Unit)) := O.C 39 (a0, a1, a2, ())
noncomputable def c_laws_eqWay (O : Oracle E1) (a0 : Yc) (a1 : Yc) : Option Yd := O.C 105 (a0, a1, ())
noncomputable def c_laws_eqWayS (O : Oracle E1) (a0 : YF) (a1 : YF) : Option Yd := O.C 40 (a0, a1, ())
noncomputable def c_laws_markWayS (O : Oracle E1) (a0 : YF) (a1 : Int) : Option (Yq × (YF × Unit)) := O.C 41 (a0, a1, ())
noncomputable def c_laws_heldWayS (O : Oracle E1) (a0 : YF) (a1 : Int) : Option Ye := O.C 42 (a0, a1, ())
noncomputable def c_laws_FnExactWaysInto (O : Oracle E1) (a0 : Yf) (a1 : Yh) (a2 : Yh) : Option Yd := O.C 6 (a0, a1, a2, ())
noncomputable abbrev lh_laws_szLitS_122 : LoopH := { key := 244, ht := [0, 1, 5], hτ := (fs [yg, ya, ya]), ex := 0, ot := [1], oτ := (fs [ya]) }
noncomputable def cd_laws_szLitS_122 : Code := Code.part (bodyOf 10) [1, 1, 1, 0, 1, 0, 0]
noncomputable def l_laws_szLitS_122 (O : Oracle E1) (a0 : Yh) (a1 : Int) (a2 : Int) : Option (Yq ⊕ Ye) := O.L 10 lh_laws_szLitS_122 cd_laws_szLitS_122 (a0, a1, a2, ())
noncomputable abbrev lh_laws_toIntS_58 : LoopH := { key := 116, ht := [0, 3, 4], hτ := (fs [yc, yf, ya]), ex := 0, ot := [3], oτ := (fs [yf]) }
noncomputable def cd_laws_toIntS_58 : Code := Code.part (bodyOf 75) [1, 1, 0, 1, 0, 0]
noncomputable def l_laws_toIntS_58 (O : Oracle E1) (a0 : Yb) (a1 : Yb) (a2 : Int) : Option YD := O.L 75 lh_laws_toIntS_58 cd_laws_toIntS_58 (a0, a1, a2, ())
noncomputable abbrev lh_laws_toLitS_58 : LoopH := { key := 116, ht := [0, 3, 4], hτ := (fs [yg, yk, ya]), ex := 0, ot := [3], oτ := (fs [yk]) }
noncomputable def cd_laws_toLitS_58 : Code := Code.part (bodyOf 13) [1, 1, 0, 1, 0, 0]
noncomputable def l_laws_toLitS_58 (O : Oracle E1) (a0 : Yh) (a1 : Yh) (a2 : Int) : Option Ys := O.L 13 lh_laws_toLitS_58 cd_laws_toLitS_58 (a0, a1, a2, ())
noncomputable abbrev lh_laws_eqIntS_58 : LoopH := { key := 116, ht := [0, 1, 5], hτ := (fs [yc, yc, ya]), ex := 0, ot := [], oτ := (fs []) }
noncomputable def cd_laws_eqIntS_58 : Code := Code.part (bodyOf 81) [1, 1, 0, 1, 0, 0]
noncomputable def l_laws_eqIntS_58 (O : Oracle E1) (a0 : Yb) (a1 : Yb) (a2 : Int) : Option Yr := O.L 81 lh_laws_eqIntS_58 cd_laws_eqIntS_58 (a0, a1, a2, ())
noncomputable abbrev lh_laws_eqLitS_58 : LoopH := { key := 116, ht := [0, 1, 5], hτ := (fs [yg, yg, ya]), ex := 0, ot := [], oτ := (fs []) }
noncomputable def cd_laws_eqLitS_58 : Code := Code.part (bodyOf 16) [1, 1, 0, 1, 0, 0]
noncomputable def l_laws_eqLitS_58 (O : Oracle E1) (a0 : Yh) (a1 : Yh) (a2 : Int) : Option Yr := O.L 16 lh_laws_eqLitS_58 cd_laws_eqLitS_58 (a0, a1, a2, ())
noncomputable abbrev lh_laws_markIntS_26 : LoopH := { key := 52, ht := [0, 1, 5], hτ := (fs [yf, ya, ya]), ex := 0, ot := [0, 1], oτ := (fs [yf, ya]) }
noncomputable def cd_laws_markIntS_26 : Code := Code.part (bodyOf 82) [1, 0, 1, 0, 0]
noncomputable def l_laws_markIntS_26 (O : Oracle E1) (a0 : Yb) (a1 : Int) (a2 : Int) : Option ((Yb × Int × Unit) ⊕ (Yq × Yf)) := O.L 82 lh_laws_markIntS_26 cd_laws_markIntS_26 (a0, a1, a2, ())
noncomputable abbrev lh_laws_markLitS_26 : LoopH := { key := 52, ht := [0, 1, 5], hτ := (fs [yk, ya, ya]), ex := 0, ot := [0, 1], oτ := (fs [yk, ya]) }
noncomputable def cd_laws_markLitS_26 : Code := Code.part (bodyOf 19) [1, 0, 1, 0, 0]
noncomputable def l_laws_markLitS_26 (O : Oracle E1) (a0 : Yh) (a1 : Int) (a2 : Int) : Option ((Yh × Int × Unit) ⊕ (Yq × (Yh × Unit))) := O.L 19 lh_laws_markLitS_26 cd_laws_markLitS_26 (a0, a1, a2, ())
noncomputable abbrev lh_spec_l1End_28 : LoopH := { key := 56, ht := [1, 2, 3, 7], hτ := (fs [yc, ya, yj, ya]), ex := 0, ot := [2], oτ := (fs [ya]) }
noncomputable def cd_spec_l1End_28 : Code := Code.part (bodyOf 206) [1, 1, 0, 0, 0]
noncomputable def l_spec_l1End_28 (O : Oracle E1) (a0 : Yb) (a1 : Int) (a2 : Yf) (a3 : Int) : Option (Yq ⊕ Ye) := O.L 206 lh_spec_l1End_28 cd_spec_l1End_28 (a0, a1, a2, a3, ())
noncomputable abbrev lh_spec_l4Clause_26 : LoopH := { key := 52, ht := [1, 2, 7, 8, 9], hτ := (fs [yg, yj, yg, ya, ya]), ex := 0, ot := [1], oτ := (fs [yg]) }
noncomputable def cd_spec_l4Clause_26 : Code := Code.part (bodyOf 73) [1, 0, 1, 0, 0]
noncomputable def l_spec_l4Clause_26 (O : Oracle E1) (a0 : Yh) (a1 : Yf) (a2 : Yh) (a3 : Int) (a4 : Int) : Option ((Yh × Unit) ⊕ Yd) := O.L 73 lh_spec_l4Clause_26 cd_spec_l4Clause_26 (a0, a1, a2, a3, a4, ())
noncomputable abbrev lh_spec_l1All_26 : LoopH := { key := 52, ht := [1, 2, 9, 10, 11], hτ := (fs [ya, ya, yc, ya, ya]), ex := 0, ot := [], oτ := (fs []) }
noncomputable def cd_spec_l1All_26 : Code := Code.part (bodyOf 202) [1, 0, 1, 0, 0]
noncomputable def l_spec_l1All_26 (O : Oracle E1) (a0 : Int) (a1 : Int) (a2 : Yb) (a3 : Int) (a4 : Int) : Option Yr := O.L 202 lh_spec_l1All_26 cd_spec_l1All_26 (a0, a1, a2, a3, a4, ())
noncomputable abbrev lh_spec_l1Put_28 : LoopH := { key := 56, ht := [0, 1, 5], hτ := (fs [yf, ya, ya]), ex := 0, ot := [0, 1, 5], oτ := (fs [yf, ya, ya]) }
noncomputable def cd_spec_l1Put_28 : Code := Code.part (bodyOf 269) [1, 1, 0, 0, 0]
noncomputable def l_spec_l1Put_28 (O : Oracle E1) (a0 : Yb) (a1 : Int) (a2 : Int) : Option ((Yb × Int × Int × Unit) ⊕ Yl) := O.L 269 lh_spec_l1Put_28 cd_spec_l1Put_28 (a0, a1, a2, ())
noncomputable abbrev lh_spec_l1Vars_58 : LoopH := { key := 116, ht := [3, 6, 7, 8], hτ := (fs [yf, yc, ya, ya]), ex := 0, ot := [3], oτ := (fs [yf]) }
noncomputable def cd_spec_l1Vars_58 : Code := Code.part (bodyOf 268) [1, 1, 0, 1, 0, 0]
noncomputable def l_spec_l1Vars_58 (O : Oracle E1) (a0 : Yb) (a1 : Yb) (a2 : Int) (a3 : Int) : Option YD := O.L 268 lh_spec_l1Vars_58 cd_spec_l1Vars_58 (a0, a1, a2, a3, ())
noncomputable abbrev lh_spec_l4Vars_58 : LoopH := { key := 116, ht := [3, 8, 9, 10], hτ := (fs [yf, yg, ya, ya]), ex := 0, ot := [3], oτ := (fs [yf]) }
noncomputable def cd_spec_l4Vars_58 : Code := Code.part (bodyOf 237) [1, 1, 0, 1, 0, 0]
noncomputable def l_spec_l4Vars_58 (O : Oracle E1) (a0 : Yb) (a1 : Yh) (a2 : Int) (a3 : Int) : Option YD := O.L 237 lh_spec_l4Vars_58 cd_spec_l4Vars_58 (a0, a1, a2, a3, ())
noncomputable abbrev lh_spec_l4Vars_14950 : LoopH := { key := 29900, ht := [3, 8, 9, 10, 20, 21, 22], hτ := (fs [yf, yg, ya, ya, yf, ya, ya]), ex := 2, ot := [3, 8, 9, 10], oτ := (fs [yf, yg, ya, ya]) }
noncomputable def cd_spec_l4Vars_14950 : Code := Code.part (bodyOf 237) [1, 1, 0, 1, 0, 0, 1, 1, 0, 0, 1, 1, 0, 0]
noncomputable def l_spec_l4Vars_14950 (O : Oracle E1) (a0 : Yb) (a1 : Yh) (a2 : Int) (a3 : Int) (a4 : Yb) (a5 : Int) (a6 : Int) : Option ((Yb × Yh × Int × Int × Unit) ⊕ Yl) := O.L 237 lh_spec_l4Vars_14950 cd_spec_l4Vars_14950 (a0, a1, a2, a3, a4, a5, a6, ())
noncomputable abbrev lh_spec_l1Shift_58 : LoopH := { key := 116, ht := [1, 5, 11, 12], hτ := (fs [ya, yf, ya, ya]), ex := 0, ot := [5], oτ := (fs [yf]), hal := [(10, 5)] }
noncomputable def cd_spec_l1Shift_58 : Code := Code.part (bodyOf 185) [1, 1, 0, 1, 0, 0]
noncomputable def l_spec_l1Shift_58 (O : Oracle E1) (a0 : Int) (a1 : Yb) (a2 : Int) (a3 : Int) : Option YD := O.L 185 lh_spec_l1Shift_58 cd_spec_l1Shift_58 (a0, a1, a2, a3, ())
noncomputable abbrev lh_spec_l6Apart_122 : LoopH := { key := 244, ht := [3, 8, 9, 14, 15, 16], hτ := (fs [yj, ya, ym, yg, ya, ya]), ex := 0, ot := [3, 9], oτ := (fs [yj, ym]) }
noncomputable def cd_spec_l6Apart_122 : Code := Code.part (bodyOf 116) [1, 1, 1, 0, 1, 0, 0]
noncomputable def l_spec_l6Apart_122 (O : Oracle E1) (a0 : Yf) (a1 : Int) (a2 : Yh) (a3 : Yh) (a4 : Int) (a5 : Int) : Option ((Yf × Yh × Unit) ⊕ Yn) := O.L 116 lh_spec_l6Apart_122 cd_spec_l6Apart_122 (a0, a1, a2, a3, a4, a5, ())
noncomputable abbrev lh_spec_l1Has_26 : LoopH := { key := 52, ht := [1, 7, 8, 9], hτ := (fs [ya, yc, ya, ya]), ex := 0, ot := [], oτ := (fs []) }
noncomputable def cd_spec_l1Has_26 : Code := Code.part (bodyOf 131) [1, 0, 1, 0, 0]
noncomputable def l_spec_l1Has_26 (O : Oracle E1) (a0 : Int) (a1 : Yb) (a2 : Int) (a3 : Int) : Option Yr := O.L 131 lh_spec_l1Has_26 cd_spec_l1Has_26 (a0, a1, a2, a3, ())
noncomputable abbrev lh_spec_l2Apply_58 : LoopH := { key := 116, ht := [0, 5, 8, 9, 10], hτ := (fs [yh, yf, yc, ya, ya]), ex := 0, ot := [5], oτ := (fs [yf]) }
noncomputable def cd_spec_l2Apply_58 : Code := Code.part (bodyOf 142) [1, 1, 0, 1, 0, 0]
noncomputable def l_spec_l2Apply_58 (O : Oracle E1) (a0 : Yj) (a1 : Yb) (a2 : Yb) (a3 : Int) (a4 : Int) : Option YD := O.L 142 lh_spec_l2Apply_58 cd_spec_l2Apply_58 (a0, a1, a2, a3, a4, ())
noncomputable abbrev lh_spec_l2Sizes_26 : LoopH := { key := 52, ht := [2, 3, 4, 11, 12, 13], hτ := (fs [yc, yc, yj, yh, ya, ya]), ex := 0, ot := [2, 3, 4], oτ := (fs [yc, yc, yj]) }
noncomputable def cd_spec_l2Sizes_26 : Code := Code.part (bodyOf 204) [1, 0, 1, 0, 0]
noncomputable def l_spec_l2Sizes_26 (O : Oracle E1) (a0 : Yb) (a1 : Yb) (a2 : Yf) (a3 : Yj) (a4 : Int) (a5 : Int) : Option ((Yb × Yb × Yf × Unit) ⊕ Yd) := O.L 204 lh_spec_l2Sizes_26 cd_spec_l2Sizes_26 (a0, a1, a2, a3, a4, a5, ())
noncomputable abbrev lh_spec_l2Bind_250 : LoopH := { key := 500, ht := [0, 1, 2, 7, 8, 17, 18], hτ := (fs [yh, ya, yc, yi, yi, ya, ya]), ex := 0, ot := [1, 2, 8], oτ := (fs [ya, yc, yi]) }
noncomputable def cd_spec_l2Bind_250 : Code := Code.part (bodyOf 205) [1, 1, 1, 1, 0, 1, 0, 0]
noncomputable def l_spec_l2Bind_250 (O : Oracle E1) (a0 : Yj) (a1 : Int) (a2 : Yb) (a3 : Yj) (a4 : Yj) (a5 : Int) (a6 : Int) : Option ((Int × Yb × Yj × Unit) ⊕ Yg) := O.L 205 lh_spec_l2Bind_250 cd_spec_l2Bind_250 (a0, a1, a2, a3, a4, a5, a6, ())
noncomputable abbrev lh_spec_l2Unify_30 : LoopH := { key := 60, ht := [1, 2, 3, 8, 9, 10], hτ := (fs [yc, yc, yj, yi, yf, yf]), ex := 999, ot := [], oτ := (fs []) }
noncomputable def cd_spec_l2Unify_30 : Code := Code.part (bodyOf 139) [1, 1, 1, 0, 0]
noncomputable def l_spec_l2Unify_30 (O : Oracle E1) (a0 : Yb) (a1 : Yb) (a2 : Yf) (a3 : Yj) (a4 : Yb) (a5 : Yb) : Option ((Unit) ⊕ Ym) := O.L 139 lh_spec_l2Unify_30 cd_spec_l2Unify_30 (a0, a1, a2, a3, a4, a5, ())
noncomputable abbrev lh_spec_l2Unify_1932 : LoopH := { key := 3864, ht := [1, 2, 3, 8, 9, 10, 11], hτ := (fs [yc, yc, yj, yi, yf, yf, ya]), ex := 2, ot := [1, 2, 3, 8, 9, 10, 11], oτ := (fs [yc, yc, yj, yi, yf, yf, ya]) }
noncomputable def cd_spec_l2Unify_1932 : Code := Code.part (bodyOf 139) [1, 1, 1, 0, 0, 0, 1, 1, 0, 0, 0]
noncomputable def l_spec_l2Unify_1932 (O : Oracle E1) (a0 : Yb) (a1 : Yb) (a2 : Yf) (a3 : Yj) (a4 : Yb) (a5 : Yb) (a6 : Int) : Option ((Yb × Yb × Yf × Yj × Yb × Yb × Int × Unit) ⊕ Ym) := O.L 139 lh_spec_l2Unify_1932 cd_spec_l2Unify_1932 (a0, a1, a2, a3, a4, a5, a6, ())
noncomputable abbrev lh_spec_l4Apply_58 : LoopH := { key := 116, ht := [0, 5, 8, 9, 10], hτ := (fs [yh, ym, yg, ya, ya]), ex := 0, ot := [5], oτ := (fs [ym]) }
noncomputable def cd_spec_l4Apply_58 : Code := Code.part (bodyOf 141) [1, 1, 0, 1, 0, 0]
noncomputable def l_spec_l4Apply_58 (O : Oracle E1) (a0 : Yj) (a1 : Yh) (a2 : Yh) (a3 : Int) (a4 : Int) : Option Ys := O.L 141 lh_spec_l4Apply_58 cd_spec_l4Apply_58 (a0, a1, a2, a3, a4, ())
noncomputable abbrev lh_spec_l1Same_58 : LoopH := { key := 116, ht := [0, 1, 12, 13], hτ := (fs [yc, yc, ya, ya]), ex := 0, ot := [], oτ := (fs []) }
noncomputable def cd_spec_l1Same_58 : Code := Code.part (bodyOf 253) [1, 1, 0, 1, 0, 0]
noncomputable def l_spec_l1Same_58 (O : Oracle E1) (a0 : Yb) (a1 : Yb) (a2 : Int) (a3 : Int) : Option Yr := O.L 253 lh_spec_l1Same_58 cd_spec_l1Same_58 (a0, a1, a2, a3, ())
noncomputable abbrev lh_spec_l1Count_58 : LoopH := { key := 116, ht := [1, 5, 8, 9, 10], hτ := (fs [ya, ya, yc, ya, ya]), ex := 0, ot := [5], oτ := (fs [ya]) }
noncomputable def cd_spec_l1Count_58 : Code := Code.part (bodyOf 287) [1, 1, 0, 1, 0, 0]
noncomputable def l_spec_l1Count_58 (O : Oracle E1) (a0 : Int) (a1 : Int) (a2 : Yb) (a3 : Int) (a4 : Int) : Option (Yq ⊕ Ye) := O.L 287 lh_spec_l1Count_58 cd_spec_l1Count_58 (a0, a1, a2, a3, a4, ())
noncomputable abbrev lh_spec_l3Weighs_26 : LoopH := { key := 52, ht := [0, 1, 8, 9, 10], hτ := (fs [yc, yc, yf, ya, ya]), ex := 0, ot := [], oτ := (fs []) }
noncomputable def cd_spec_l3Weighs_26 : Code := Code.part (bodyOf 277) [1, 0, 1, 0, 0]
noncomputable def l_spec_l3Weighs_26 (O : Oracle E1) (a0 : Yb) (a1 : Yb) (a2 : Yb) (a3 : Int) (a4 : Int) : Option Yr := O.L 277 lh_spec_l3Weighs_26 cd_spec_l3Weighs_26 (a0, a1, a2, a3, a4, ())
noncomputable abbrev lh_spec_l3Greater_122 : LoopH := { key := 244, ht := [0, 1, 23, 24], hτ := (fs [yc, yc, ya, ya]), ex := 0, ot := [], oτ := (fs []) }
noncomputable def cd_spec_l3Greater_122 : Code := Code.part (bodyOf 254) [1, 1, 1, 0, 1, 0, 0]
noncomputable def l_spec_l3Greater_122 (O : Oracle E1) (a0 : Yb) (a1 : Yb) (a2 : Int) (a3 : Int) : Option Yr := O.L 254 lh_spec_l3Greater_122 cd_spec_l3Greater_122 (a0, a1, a2, a3, ())
noncomputable abbrev lh_spec_l3Left_122 : LoopH := { key := 244, ht := [5, 6, 16, 17, 18], hτ := (fs [yi, yi, yh, ya, ya]), ex := 0, ot := [6], oτ := (fs [yi]) }
noncomputable def cd_spec_l3Left_122 : Code := Code.part (bodyOf 255) [1, 1, 1, 0, 1, 0, 0]
noncomputable def l_spec_l3Left_122 (O : Oracle E1) (a0 : Yj) (a1 : Yj) (a2 : Yj) (a3 : Int) (a4 : Int) : Option YA := O.L 255 lh_spec_l3Left_122 cd_spec_l3Left_122 (a0, a1, a2, a3, a4, ())
noncomputable abbrev lh_spec_l3Left_125338 : LoopH := { key := 250676, ht := [5, 6, 8, 9, 16, 17, 18, 23, 24], hτ := (fs [yi, yi, yc, ya, yh, ya, ya, ya, ya]), ex := 2, ot := [5, 6, 8, 9, 16, 17, 18], oτ := (fs [yi, yi, yc, ya, yh, ya, ya]), hal := [(22, 5)] }
noncomputable def cd_spec_l3Left_125338 : Code := Code.part (bodyOf 255) [1, 1, 1, 0, 1, 0, 0, 1, 1, 0, 0, 1, 1, 0, 1, 0, 0]
noncomputable def l_spec_l3Left_125338 (O : Oracle E1) (a0 : Yj) (a1 : Yj) (a2 : Yb) (a3 : Int) (a4 : Yj) (a5 : Int) (a6 : Int) (a7 : Int) (a8 : Int) : Option (YH ⊕ Yg) := O.L 255 lh_spec_l3Left_125338 cd_spec_l3Left_125338 (a0, a1, a2, a3, a4, a5, a6, a7, a8, ())
noncomputable abbrev lh_spec_l3Over_26 : LoopH := { key := 52, ht := [0, 10, 11, 12], hτ := (fs [yh, yh, ya, ya]), ex := 0, ot := [0], oτ := (fs [yh]) }
noncomputable def cd_spec_l3Over_26 : Code := Code.part (bodyOf 256) [1, 0, 1, 0, 0]
noncomputable def l_spec_l3Over_26 (O : Oracle E1) (a0 : Yj) (a1 : Yj) (a2 : Int) (a3 : Int) : Option ((Yj × Unit) ⊕ Yd) := O.L 256 lh_spec_l3Over_26 cd_spec_l3Over_26 (a0, a1, a2, a3, ())
noncomputable abbrev lh_spec_l3Over_27034 : LoopH := { key := 54068, ht := [0, 6, 7, 10, 11, 12, 16, 17, 18], hτ := (fs [yh, yc, .bool, yh, ya, ya, yh, ya, ya]), ex := 2, ot := [0, 7, 10, 11, 12], oτ := (fs [yh, .bool, yh, ya, ya]) }
noncomputable def cd_spec_l3Over_27034 : Code := Code.part (bodyOf 256) [1, 0, 1, 0, 0, 1, 1, 0, 0, 1, 1, 0, 1, 0, 0]
noncomputable def l_spec_l3Over_27034 (O : Oracle E1) (a0 : Yj) (a1 : Yb) (a2 : Bool) (a3 : Yj) (a4 : Int) (a5 : Int) (a6 : Yj) (a7 : Int) (a8 : Int) : Option ((Yj × Bool × Yj × Int × Int × Unit) ⊕ Yd) := O.L 256 lh_spec_l3Over_27034 cd_spec_l3Over_27034 (a0, a1, a2, a3, a4, a5, a6, a7, a8, ())
noncomputable abbrev lh_spec_l4Maximal_26 : LoopH := { key := 52, ht := [0, 1, 7, 8, 9], hτ := (fs [yg, ya, yg, ya, ya]), ex := 0, ot := [], oτ := (fs []) }
noncomputable def cd_spec_l4Maximal_26 : Code := Code.part (bodyOf 145) [1, 0, 1, 0, 0]
noncomputable def l_spec_l4Maximal_26 (O : Oracle E1) (a0 : Yh) (a1 : Int) (a2 : Yh) (a3 : Int) (a4 : Int) : Option Yr := O.L 145 lh_spec_l4Maximal_26 cd_spec_l4Maximal_26 (a0, a1, a2, a3, a4, ())
noncomputable abbrev lh_spec_l2Rename_122 : LoopH := { key := 244, ht := [3, 4, 12, 13, 14], hτ := (fs [yf, yi, yh, ya, ya]), ex := 0, ot := [4], oτ := (fs [yi]) }
noncomputable def cd_spec_l2Rename_122 : Code := Code.part (bodyOf 257) [1, 1, 1, 0, 1, 0, 0]
noncomputable def l_spec_l2Rename_122 (O : Oracle E1) (a0 : Yb) (a1 : Yj) (a2 : Yj) (a3 : Int) (a4 : Int) : Option YA := O.L 257 lh_spec_l2Rename_122 cd_spec_l2Rename_122 (a0, a1, a2, a3, a4, ())
noncomputable abbrev lh_spec_l2Rename_125338 : LoopH := { key := 250676, ht := [3, 4, 7, 12, 13, 14, 18, 19, 20], hτ := (fs [yf, yi, yf, yh, ya, ya, yc, ya, ya]), ex := 2, ot := [3, 4, 7, 12, 13, 14], oτ := (fs [yf, yi, yf, yh, ya, ya]) }
noncomputable def cd_spec_l2Rename_125338 : Code := Code.part (bodyOf 257) [1, 1, 1, 0, 1, 0, 0, 1, 1, 0, 0, 1, 1, 0, 1, 0, 0]
noncomputable def l_spec_l2Rename_125338 (O : Oracle E1) (a0 : Yb) (a1 : Yj) (a2 : Yb) (a3 : Yj) (a4 : Int) (a5 : Int) (a6 : Yb) (a7 : Int) (a8 : Int) : Option ((Yb × Yj × Yb × Yj × Int × Int × Unit) ⊕ Yg) := O.L 257 lh_spec_l2Rename_125338 cd_spec_l2Rename_125338 (a0, a1, a2, a3, a4, a5, a6, a7, a8, ())
noncomputable abbrev lh_spec_l2Rename_128346522 : LoopH := { key := 256693044, ht := [3, 4, 7, 9, 12, 13, 14, 18, 19, 20, 37, 38], hτ := (fs [yf, yi, yf, ya, yh, ya, ya, yc, ya, ya, ya, ya]), ex := 4, ot := [3, 4, 7, 9, 12, 13, 14, 18, 19, 20], oτ := (fs [yf, yi, yf, ya, yh, ya, ya, yc, ya, ya]), hal := [(36, 3)] }
noncomputable def cd_spec_l2Rename_128346522 : Code := Code.part (bodyOf 257) [1, 1, 1, 0, 1, 0, 0, 1, 1, 0, 0, 1, 1, 0, 1, 0, 0, 1, 1, 0, 0, 1, 1, 0, 1, 0, 0]
noncomputable def l_spec_l2Rename_128346522 (O : Oracle E1) (a0 : Yb) (a1 : Yj) (a2 : Yb) (a3 : Int) (a4 : Yj) (a5 : Int) (a6 : Int) (a7 : Yb) (a8 : Int) (a9 : Int) (a10 : Int) (a11 : Int) : Option (YC ⊕ Yg) := O.L 257 lh_spec_l2Rename_128346522 cd_spec_l2Rename_128346522 (a0, a1, a2, a3, a4, a5, a6, a7, a8, a9, a10, a11, ())
noncomputable abbrev lh_spec_l4Terms_58 : LoopH := { key := 116, ht := [3, 6, 7, 8], hτ := (fs [yi, yg, ya, ya]), ex := 0, ot := [3], oτ := (fs [yi]) }
noncomputable def cd_spec_l4Terms_58 : Code := Code.part (bodyOf 258) [1, 1, 0, 1, 0, 0]
noncomputable def l_spec_l4Terms_58 (O : Oracle E1) (a0 : Yj) (a1 : Yh) (a2 : Int) (a3 : Int) : Option YA := O.L 258 lh_spec_l4Terms_58 cd_spec_l4Terms_58 (a0, a1, a2, a3, ())
noncomputable abbrev lh_spec_l4Rename_122 : LoopH := { key := 244, ht := [3, 4, 10, 11, 12], hτ := (fs [yi, ym, yg, ya, ya]), ex := 0, ot := [4], oτ := (fs [ym]) }
noncomputable def cd_spec_l4Rename_122 : Code := Code.part (bodyOf 210) [1, 1, 1, 0, 1, 0, 0]
noncomputable def l_spec_l4Rename_122 (O : Oracle E1) (a0 : Yj) (a1 : Yh) (a2 : Yh) (a3 : Int) (a4 : Int) : Option Ys := O.L 210 lh_spec_l4Rename_122 cd_spec_l4Rename_122 (a0, a1, a2, a3, a4, ())
noncomputable abbrev lh_spec_l4Own_58 : LoopH := { key := 116, ht := [3, 6, 7, 8], hτ := (fs [ym, yg, ya, ya]), ex := 0, ot := [3], oτ := (fs [ym]) }
noncomputable def cd_spec_l4Own_58 : Code := Code.part (bodyOf 133) [1, 1, 0, 1, 0, 0]
noncomputable def l_spec_l4Own_58 (O : Oracle E1) (a0 : Yh) (a1 : Yh) (a2 : Int) (a3 : Int) : Option Ys := O.L 133 lh_spec_l4Own_58 cd_spec_l4Own_58 (a0, a1, a2, a3, ())
noncomputable abbrev lh_spec_l4Tidy_58 : LoopH := { key := 116, ht := [3, 9, 10, 11], hτ := (fs [ym, yg, ya, ya]), ex := 0, ot := [3], oτ := (fs [ym]) }
noncomputable def cd_spec_l4Tidy_58 : Code := Code.part (bodyOf 211) [1, 1, 0, 1, 0, 0]
noncomputable def l_spec_l4Tidy_58 (O : Oracle E1) (a0 : Yh) (a1 : Yh) (a2 : Int) (a3 : Int) : Option Ys := O.L 211 lh_spec_l4Tidy_58 cd_spec_l4Tidy_58 (a0, a1, a2, a3, ())
noncomputable abbrev lh_spec_l4Tidy_119610 : LoopH := { key := 239220, ht := [3, 5, 6, 9, 10, 11, 26, 27], hτ := (fs [ym, (.box yb), .bool, yg, ya, ya, ya, ya]), ex := 2, ot := [3, 5, 6, 9, 10, 11], oτ := (fs [ym, (.box yb), .bool, yg, ya, ya]), hal := [(25, 3)] }
noncomputable def cd_spec_l4Tidy_119610 : Code := Code.part (bodyOf 211) [1, 1, 0, 1, 0, 0, 1, 1, 0, 0, 1, 1, 1, 0, 1, 0, 0]
noncomputable def l_spec_l4Tidy_119610 (O : Oracle E1) (a0 : Yh) (a1 : Ya) (a2 : Bool) (a3 : Yh) (a4 : Int) (a5 : Int) (a6 : Int) (a7 : Int) : Option ((Yh × Ya × Bool × Yh × Int × Int × Unit) ⊕ Yi) := O.L 211 lh_spec_l4Tidy_119610 cd_spec_l4Tidy_119610 (a0, a1, a2, a3, a4, a5, a6, a7, ())
noncomputable abbrev lh_spec_l6Super_131066 : LoopH := { key := 262132, ht := [4, 7, 10, 14, 15, 16, 17, 18, 19, 20, 128, 129], hτ := yo, ex := 0, ot := [4, 7, 10, 14, 15, 16, 17, 18, 19, 20], oτ := yq, hal := [(127, 18)] }
noncomputable def cd_spec_l6Super_131066 : Code := Code.part (bodyOf 74) [1, 1, 1, 1, 1, 1, 1, 1, 1, 1, 1, 1, 1, 0, 1, 0, 0]
noncomputable def l_spec_l6Super_131066 (O : Oracle E1) (a0 : Yf) (a1 : Yc) (a2 : Yb) (a3 : Yb) (a4 : Yb) (a5 : Yb) (a6 : Yj) (a7 : Yh) (a8 : Yh) (a9 : Yh) (a10 : Int) (a11 : Int) : Option (Yo ⊕ Yp) := O.L 74 lh_spec_l6Super_131066 cd_spec_l6Super_131066 (a0, a1, a2, a3, a4, a5, a6, a7, a8, a9, a10, a11, ())
noncomputable abbrev lh_spec_l6Super_262138 : LoopH := { key := 524276, ht := [4, 7, 10, 14, 15, 16, 17, 18, 19, 20, 144, 145], hτ := yo, ex := 2, ot := [4, 7, 10, 14, 15, 16, 17, 18, 19, 20], oτ := yq, hal := [(143, 19)] }
noncomputable def cd_spec_l6Super_262138 : Code := Code.part (bodyOf 74) [1, 1, 1, 1, 1, 1, 1, 1, 1, 1, 1, 1, 1, 1, 0, 1, 0, 0]
noncomputable def l_spec_l6Super_262138 (O : Oracle E1) (a0 : Yf) (a1 : Yc) (a2 : Yb) (a3 : Yb) (a4 : Yb) (a5 : Yb) (a6 : Yj) (a7 : Yh) (a8 : Yh) (a9 : Yh) (a10 : Int) (a11 : Int) : Option (Yo ⊕ Yp) := O.L 74 lh_spec_l6Super_262138 cd_spec_l6Super_262138 (a0, a1, a2, a3, a4, a5, a6, a7, a8, a9, a10, a11, ())
noncomputable abbrev lh_spec_l6Ways_58 : LoopH := { key := 116, ht := [1, 2, 3, 7, 20, 21], hτ := (fs [yg, yg, yj, yn, ya, ya]), ex := 0, ot := [7], oτ := (fs [yn]) }
noncomputable def cd_spec_l6Ways_58 : Code := Code.part (bodyOf 103) [1, 1, 0, 1, 0, 0]
noncomputable def l_spec_l6Ways_58 (O : Oracle E1) (a0 : Yh) (a1 : Yh) (a2 : Yf) (a3 : YF) (a4 : Int) (a5 : Int) : Option ((YF × Unit) ⊕ Yk) := O.L 103 lh_spec_l6Ways_58 cd_spec_l6Ways_58 (a0, a1, a2, a3, a4, a5, ())
noncomputable abbrev lh_spec_l6Ways_14950 : LoopH := { key := 29900, ht := [1, 2, 3, 7, 8, 9, 20, 21], hτ := (fs [yg, yg, yj, yn, ya, ya, ya, ya]), ex := 2, ot := [1, 2, 3, 7, 20, 21], oτ := (fs [yg, yg, yj, yn, ya, ya]) }
noncomputable def cd_spec_l6Ways_14950 : Code := Code.part (bodyOf 103) [1, 1, 0, 1, 0, 0, 1, 1, 0, 0, 1, 1, 0, 0]
noncomputable def l_spec_l6Ways_14950 (O : Oracle E1) (a0 : Yh) (a1 : Yh) (a2 : Yf) (a3 : YF) (a4 : Int) (a5 : Int) (a6 : Int) (a7 : Int) : Option Yy := O.L 103 lh_spec_l6Ways_14950 cd_spec_l6Ways_14950 (a0, a1, a2, a3, a4, a5, a6, a7, ())
noncomputable abbrev lh_spec_l6Ways_956818 : LoopH := { key := 1913636, ht := [1, 2, 3, 7, 8, 9, 20, 21, 28, 29, 30], hτ := (fs [yg, yg, yj, yn, ya, ya, ya, ya, yg, ya, ya]), ex := 4, ot := [1, 2, 3, 7, 8, 9, 20, 21], oτ := (fs [yg, yg, yj, yn, ya, ya, ya, ya]) }
noncomputable def cd_spec_l6Ways_956818 : Code := Code.part (bodyOf 103) [1, 1, 0, 1, 0, 0, 1, 1, 0, 0, 1, 1, 0, 0, 1, 0, 0, 1, 0, 0]
noncomputable def l_spec_l6Ways_956818 (O : Oracle E1) (a0 : Yh) (a1 : Yh) (a2 : Yf) (a3 : YF) (a4 : Int) (a5 : Int) (a6 : Int) (a7 : Int) (a8 : Yh) (a9 : Int) (a10 : Int) : Option Yt := O.L 103 lh_spec_l6Ways_956818 cd_spec_l6Ways_956818 (a0, a1, a2, a3, a4, a5, a6, a7, a8, a9, a10, ())
noncomputable abbrev lh_spec_l6Ways_244945510 : LoopH := { key := 489891020, ht := [1, 2, 3, 7, 8, 9, 10, 11, 12, 20, 21, 28, 29, 30], hτ := yp, ex := 6, ot := [1, 2, 3, 7, 8, 9, 20, 21, 28, 29, 30], oτ := (fs [yg, yg, yj, yn, ya, ya, ya, ya, yg, ya, ya]) }
noncomputable def cd_spec_l6Ways_244945510 : Code := Code.part (bodyOf 103) [1, 1, 0, 1, 0, 0, 1, 1, 0, 0, 1, 1, 0, 0, 1, 0, 0, 1, 0, 0, 1, 1, 0, 0, 1, 1, 0, 0]
noncomputable def l_spec_l6Ways_244945510 (O : Oracle E1) (a0 : Yh) (a1 : Yh) (a2 : Yf) (a3 : YF) (a4 : Int) (a5 : Int) (a6 : Int) (a7 : Ya) (a8 : Int) (a9 : Int) (a10 : Int) (a11 : Yh) (a12 : Int) (a13 : Int) : Option ((Yh × Yh × Yf × YF × Int × Int × Int × Int × Yh × Int × Int × Unit) ⊕ Yk) := O.L 103 lh_spec_l6Ways_244945510 cd_spec_l6Ways_244945510 (a0, a1, a2, a3, a4, a5, a6, a7, a8, a9, a10, a11, a12, a13, ())
noncomputable abbrev lh_spec_l6Ways_31353025318 : LoopH := { key := 62706050636, ht := [1, 2, 3, 7, 8, 9, 10, 11, 12, 20, 21, 28, 29, 30, 46, 47], hτ := yr, ex := 8, ot := [1, 2, 3, 7, 8, 9, 10, 11, 12, 20, 21, 28, 29, 30], oτ := yp }
noncomputable def cd_spec_l6Ways_31353025318 : Code := Code.part (bodyOf 103) [1, 1, 0, 1, 0, 0, 1, 1, 0, 0, 1, 1, 0, 0, 1, 0, 0, 1, 0, 0, 1, 1, 0, 0, 1, 1, 0, 0, 1, 0, 0, 1, 1, 0, 0]
noncomputable def l_spec_l6Ways_31353025318 (O : Oracle E1) (a0 : Yh) (a1 : Yh) (a2 : Yf) (a3 : YF) (a4 : Int) (a5 : Int) (a6 : Int) (a7 : Ya) (a8 : Int) (a9 : Int) (a10 : Int) (a11 : Yh) (a12 : Int) (a13 : Int) (a14 : Int) (a15 : Int) : Option (Yu ⊕ Yk) := O.L 103 lh_spec_l6Ways_31353025318 cd_spec_l6Ways_31353025318 (a0, a1, a2, a3, a4, a5, a6, a7, a8, a9, a10, a11, a12, a13, a14, a15, ())
noncomputable abbrev lh_impl_Sign_isTerm_122 : LoopH := { key := 244, ht := [2, 5, 11, 12, 13], hτ := (fs [yj, ya, yc, ya, ya]), ex := 0, ot := [5], oτ := (fs [ya]) }
noncomputable def cd_impl_Sign_isTerm_122 : Code := Code.part (bodyOf 213) [1, 1, 1, 0, 1, 0, 0]
noncomputable def l_impl_Sign_isTerm_122 (O : Oracle E1) (a0 : Yf) (a1 : Int) (a2 : Yb) (a3 : Int) (a4 : Int) : Option (Yq ⊕ Yd) := O.L 213 lh_impl_Sign_isTerm_122 cd_impl_Sign_isTerm_122 (a0, a1, a2, a3, a4, ())
noncomputable abbrev lh_slices_IndexFunc_impl_Lit_impl_Lit__impl_Sign_isClause_1_26 : LoopH := { key := 52, ht := [0, 1, 7, 8], hτ := (fs [yg, (.fn 148 ys), ya, ya]), ex := 0, ot := [], oτ := (fs []) }
noncomputable def cd_slices_IndexFunc_impl_Lit_impl_Lit__impl_Sign_isClause_1_26 : Code := Code.part (bodyOf 212) [1, 0, 1, 0, 0]
noncomputable def l_slices_IndexFunc_impl_Lit_impl_Lit__impl_Sign_isClause_1_26 (O : Oracle E1) (a0 : Yh) (a1 : Yf × Unit) (a2 : Int) (a3 : Int) : Option Yx := O.L 9765076 lh_slices_IndexFunc_impl_Lit_impl_Lit__impl_Sign_isClause_1_26 cd_slices_IndexFunc_impl_Lit_impl_Lit__impl_Sign_isClause_1_26 (a0, a1, a2, a3, ())
noncomputable abbrev lh_slices_IndexFunc_int_int__impl_GoodSign_1_26 : LoopH := { key := 52, ht := [0, 1, 7, 8], hτ := (fs [yc, (.fn 194 (fs [])), ya, ya]), ex := 0, ot := [], oτ := (fs []) }
noncomputable def cd_slices_IndexFunc_int_int__impl_GoodSign_1_26 : Code := Code.part (bodyOf 247) [1, 0, 1, 0, 0]
noncomputable def l_slices_IndexFunc_int_int__impl_GoodSign_1_26 (O : Oracle E1) (a0 : Yb) (a1 : Unit) (a2 : Int) (a3 : Int) : Option Yx := O.L 12779767 lh_slices_IndexFunc_int_int__impl_GoodSign_1_26 cd_slices_IndexFunc_int_int__impl_GoodSign_1_26 (a0, a1, a2, a3, ())
noncomputable abbrev lh_slices_Index_int_int_26 : LoopH := { key := 52, ht := [0, 1, 7, 8], hτ := (fs [yc, ya, ya, ya]), ex := 0, ot := [], oτ := (fs []) }
noncomputable def cd_slices_Index_int_int_26 : Code := Code.part (bodyOf 239) [1, 0, 1, 0, 0]
noncomputable def l_slices_Index_int_int_26 (O : Oracle E1) (a0 : Yb) (a1 : Int) (a2 : Int) (a3 : Int) : Option Yx := O.L 239 lh_slices_Index_int_int_26 cd_slices_Index_int_int_26 (a0, a1, a2, a3, ())
noncomputable abbrev lh_slices_IndexFunc_SS_int_int__impl_varsIn_1_26 : LoopH := { key := 52, ht := [0, 1, 7, 8], hτ := (fs [yh, (.fn 188 (fs [(.ptr ya)])), ya, ya]), ex := 0, ot := [], oτ := (fs []) }
noncomputable def cd_slices_IndexFunc_SS_int_int__impl_varsIn_1_26 : Code := Code.part (bodyOf 238) [1, 0, 1, 0, 0]
noncomputable def l_slices_IndexFunc_SS_int_int__impl_varsIn_1_26 (O : Oracle E1) (a0 : Yj) (a1 : Yq) (a2 : Int) (a3 : Int) : Option Yx := O.L 12386542 lh_slices_IndexFunc_SS_int_int__impl_varsIn_1_26 cd_slices_IndexFunc_SS_int_int__impl_varsIn_1_26 (a0, a1, a2, a3, ())
noncomputable abbrev lh_impl_varsIn_58 : LoopH := { key := 116, ht := [0, 3, 5], hτ := (fs [yh, yf, ya]), ex := 0, ot := [3], oτ := (fs [yf]) }
noncomputable def cd_impl_varsIn_58 : Code := Code.part (bodyOf 117) [1, 1, 0, 1, 0, 0]
noncomputable def l_impl_varsIn_58 (O : Oracle E1) (a0 : Yj) (a1 : Yb) (a2 : Int) : Option YD := O.L 117 lh_impl_varsIn_58 cd_impl_varsIn_58 (a0, a1, a2, ())
noncomputable abbrev lh_impl_termsOf_58 : LoopH := { key := 116, ht := [3, 6, 7, 8], hτ := (fs [yi, yg, ya, ya]), ex := 0, ot := [3], oτ := (fs [yi]) }
noncomputable def cd_impl_termsOf_58 : Code := Code.part (bodyOf 118) [1, 1, 0, 1, 0, 0]
noncomputable def l_impl_termsOf_58 (O : Oracle E1) (a0 : Yj) (a1 : Yh) (a2 : Int) (a3 : Int) : Option YA := O.L 118 lh_impl_termsOf_58 cd_impl_termsOf_58 (a0, a1, a2, a3, ())
noncomputable abbrev lh_impl_shift_58 : LoopH := { key := 116, ht := [1, 5, 11, 12], hτ := (fs [ya, yf, ya, ya]), ex := 0, ot := [5], oτ := (fs [yf]), hal := [(10, 5)] }
noncomputable def cd_impl_shift_58 : Code := Code.part (bodyOf 181) [1, 1, 0, 1, 0, 0]
noncomputable def l_impl_shift_58 (O : Oracle E1) (a0 : Int) (a1 : Yb) (a2 : Int) (a3 : Int) : Option YD := O.L 181 lh_impl_shift_58 cd_impl_shift_58 (a0, a1, a2, a3, ())
noncomputable abbrev lh_slices_IndexFunc_SS_int_int__impl_Sign_areTerms_1_26 : LoopH := { key := 52, ht := [0, 1, 7, 8], hτ := (fs [yh, (.fn 236 ys), ya, ya]), ex := 0, ot := [], oτ := (fs []) }
noncomputable def cd_slices_IndexFunc_SS_int_int__impl_Sign_areTerms_1_26 : Code := Code.part (bodyOf 238) [1, 0, 1, 0, 0]
noncomputable def l_slices_IndexFunc_SS_int_int__impl_Sign_areTerms_1_26 (O : Oracle E1) (a0 : Yj) (a1 : Yf × Unit) (a2 : Int) (a3 : Int) : Option Yx := O.L 15532270 lh_slices_IndexFunc_SS_int_int__impl_Sign_areTerms_1_26 cd_slices_IndexFunc_SS_int_int__impl_Sign_areTerms_1_26 (a0, a1, a2, a3, ())
noncomputable abbrev lh_impl_Sign_apart_250 : LoopH := { key := 500, ht := [2, 3, 8, 10, 29, 30], hτ := (fs [yg, yj, ya, (.own (.mv ya)), ya, ya]), ex := 0, ot := [2, 3, 10], oτ := (fs [yg, yj, (.own (.mv ya))]), hal := [(28, 10)] }
noncomputable def cd_impl_Sign_apart_250 : Code := Code.part (bodyOf 115) [1, 1, 1, 1, 0, 1, 0, 0]
noncomputable def l_impl_Sign_apart_250 (O : Oracle E1) (a0 : Yh) (a1 : Yf) (a2 : Int) (a3 : List Yz) (a4 : Int) (a5 : Int) : Option ((Yh × Yf × (List Yz) × Unit) ⊕ Yn) := O.L 115 lh_impl_Sign_apart_250 cd_impl_Sign_apart_250 (a0, a1, a2, a3, a4, a5, ())
noncomputable abbrev lh_impl_Sign_end_26 : LoopH := { key := 52, ht := [1, 2, 3, 7], hτ := (fs [yc, ya, yj, ya]), ex := 0, ot := [2], oτ := (fs [ya]) }
noncomputable def cd_impl_Sign_end_26 : Code := Code.part (bodyOf 214) [1, 0, 1, 0, 0]
noncomputable def l_impl_Sign_end_26 (O : Oracle E1) (a0 : Yb) (a1 : Int) (a2 : Yf) (a3 : Int) : Option (Yq ⊕ Ye) := O.L 214 lh_impl_Sign_end_26 cd_impl_Sign_end_26 (a0, a1, a2, a3, ())
noncomputable abbrev lh_impl_apply_58 : LoopH := { key := 116, ht := [0, 6, 9, 10, 11], hτ := (fs [yh, yf, yc, ya, ya]), ex := 0, ot := [6], oτ := (fs [yf]) }
noncomputable def cd_impl_apply_58 : Code := Code.part (bodyOf 156) [1, 1, 0, 1, 0, 0]
noncomputable def l_impl_apply_58 (O : Oracle E1) (a0 : Yj) (a1 : Yb) (a2 : Yb) (a3 : Int) (a4 : Int) : Option (Yf ⊕ YE) := O.L 156 lh_impl_apply_58 cd_impl_apply_58 (a0, a1, a2, a3, a4, ())
noncomputable abbrev lh_impl_Sign_unify_14 : LoopH := { key := 28, ht := [1, 2, 3, 8], hτ := (fs [yc, yc, yj, yi]), ex := 999, ot := [], oτ := (fs []) }
noncomputable def cd_impl_Sign_unify_14 : Code := Code.part (bodyOf 153) [1, 1, 0, 0]
noncomputable def l_impl_Sign_unify_14 (O : Oracle E1) (a0 : Yb) (a1 : Yb) (a2 : Yf) (a3 : Yj) : Option ((Unit) ⊕ Ym) := O.L 153 lh_impl_Sign_unify_14 cd_impl_Sign_unify_14 (a0, a1, a2, a3, ())
noncomputable abbrev lh_impl_Sign_unify_452 : LoopH := { key := 904, ht := [1, 2, 3, 8, 9], hτ := (fs [yc, yc, yj, yi, ya]), ex := 2, ot := [1, 2, 3, 8, 9], oτ := (fs [yc, yc, yj, yi, ya]) }
noncomputable def cd_impl_Sign_unify_452 : Code := Code.part (bodyOf 153) [1, 1, 0, 0, 0, 1, 0, 0, 0]
noncomputable def l_impl_Sign_unify_452 (O : Oracle E1) (a0 : Yb) (a1 : Yb) (a2 : Yf) (a3 : Yj) (a4 : Int) : Option ((Yb × Yb × Yf × Yj × Int × Unit) ⊕ Ym) := O.L 153 lh_impl_Sign_unify_452 cd_impl_Sign_unify_452 (a0, a1, a2, a3, a4, ())
noncomputable abbrev lh_impl_Sign_unify_1867770 : LoopH := { key := 3735540, ht := [1, 2, 3, 8, 10, 11, 12, 147, 148], hτ := (fs [yf, yf, yj, yi, ya, yc, yi, ya, ya]), ex := 5, ot := [1, 2, 3, 8, 10, 11], oτ := (fs [yf, yf, yj, yi, ya, yc]), hal := [(146, 8)] }
noncomputable def cd_impl_Sign_unify_1867770 : Code := Code.part (bodyOf 153) [1, 1, 0, 0, 0, 1, 1, 1, 1, 1, 1, 1, 1, 1, 1, 1, 1, 0, 1, 0, 0]
noncomputable def l_impl_Sign_unify_1867770 (O : Oracle E1) (a0 : Yb) (a1 : Yb) (a2 : Yf) (a3 : Yj) (a4 : Int) (a5 : Yb) (a6 : Yj) (a7 : Int) (a8 : Int) : Option (Yv ⊕ Ym) := O.L 153 lh_impl_Sign_unify_1867770 cd_impl_Sign_unify_1867770 (a0, a1, a2, a3, a4, a5, a6, a7, a8, ())
noncomputable abbrev lh_impl_applyClause_58 : LoopH := { key := 116, ht := [0, 1, 6, 13, 14], hτ := (fs [yh, yg, (.own (.mv ya)), ya, ya]), ex := 0, ot := [1, 6], oτ := (fs [yg, (.own (.mv ya))]), hal := [(12, 6)] }
noncomputable def cd_impl_applyClause_58 : Code := Code.part (bodyOf 155) [1, 1, 0, 1, 0, 0]
noncomputable def l_impl_applyClause_58 (O : Oracle E1) (a0 : Yj) (a1 : Yh) (a2 : List Yz) (a3 : Int) (a4 : Int) : Option ((Yh × (List Yz) × Unit) ⊕ Yn) := O.L 155 lh_impl_applyClause_58 cd_impl_applyClause_58 (a0, a1, a2, a3, a4, ())
noncomputable abbrev lh_slices_Concat_int_int_58 : LoopH := { key := 116, ht := [0, 3, 9, 10, 11], hτ := (fs [yh, ya, yh, ya, ya]), ex := 0, ot := [0, 3], oτ := (fs [yh, ya]) }
noncomputable def cd_slices_Concat_int_int_58 : Code := Code.part (bodyOf 215) [1, 1, 0, 1, 0, 0]
noncomputable def l_slices_Concat_int_int_58 (O : Oracle E1) (a0 : Yj) (a1 : Int) (a2 : Yj) (a3 : Int) (a4 : Int) : Option ((Yj × Int × Unit) ⊕ Yl) := O.L 215 lh_slices_Concat_int_int_58 cd_slices_Concat_int_int_58 (a0, a1, a2, a3, a4, ())
noncomputable abbrev lh_slices_Concat_int_int_250 : LoopH := { key := 500, ht := [6, 25, 26, 27], hτ := (fs [yf, yh, ya, ya]), ex := 2, ot := [6], oτ := (fs [yf]) }
noncomputable def cd_slices_Concat_int_int_250 : Code := Code.part (bodyOf 215) [1, 1, 1, 1, 0, 1, 0, 0]
noncomputable def l_slices_Concat_int_int_250 (O : Oracle E1) (a0 : Yb) (a1 : Yj) (a2 : Int) (a3 : Int) : Option YD := O.L 215 lh_slices_Concat_int_int_250 cd_slices_Concat_int_int_250 (a0, a1, a2, a3, ())
noncomputable abbrev lh_slices_Concat_impl_Lit_impl_Lit_58 : LoopH := { key := 116, ht := [0, 3, 9, 10, 11], hτ := (fs [(.sl yg), ya, (.sl yg), ya, ya]), ex := 0, ot := [0, 3], oτ := (fs [(.sl yg), ya]) }
noncomputable def cd_slices_Concat_impl_Lit_impl_Lit_58 : Code := Code.part (bodyOf 158) [1, 1, 0, 1, 0, 0]
noncomputable def l_slices_Concat_impl_Lit_impl_Lit_58 (O : Oracle E1) (a0 : List Yh) (a1 : Int) (a2 : List Yh) (a3 : Int) (a4 : Int) : Option (((List Yh) × Int × Unit) ⊕ Yi) := O.L 158 lh_slices_Concat_impl_Lit_impl_Lit_58 cd_slices_Concat_impl_Lit_impl_Lit_58 (a0, a1, a2, a3, a4, ())
noncomputable abbrev lh_slices_Concat_impl_Lit_impl_Lit_250 : LoopH := { key := 500, ht := [6, 25, 26, 27], hτ := (fs [ym, (.sl yg), ya, ya]), ex := 2, ot := [6], oτ := (fs [ym]) }
noncomputable def cd_slices_Concat_impl_Lit_impl_Lit_250 : Code := Code.part (bodyOf 158) [1, 1, 1, 1, 0, 1, 0, 0]
noncomputable def l_slices_Concat_impl_Lit_impl_Lit_250 (O : Oracle E1) (a0 : Yh) (a1 : List Yh) (a2 : Int) (a3 : Int) : Option Ys := O.L 158 lh_slices_Concat_impl_Lit_impl_Lit_250 cd_slices_Concat_impl_Lit_impl_Lit_250 (a0, a1, a2, a3, ())
noncomputable abbrev lh_impl_rename_122 : LoopH := { key := 244, ht := [3, 4, 15, 16, 17], hτ := (fs [(.map ya), (.own yf), yh, ya, ya]), ex := 0, ot := [4], oτ := (fs [(.own yf)]) }
noncomputable def cd_impl_rename_122 : Code := Code.part (bodyOf 278) [1, 1, 1, 0, 1, 0, 0]
noncomputable def l_impl_rename_122 (O : Oracle E1) (a0 : List (Int × Int)) (a1 : Yj) (a2 : Yj) (a3 : Int) (a4 : Int) : Option YA := O.L 278 lh_impl_rename_122 cd_impl_rename_122 (a0, a1, a2, a3, a4, ())
noncomputable abbrev lh_impl_rename_62670 : LoopH := { key := 125340, ht := [3, 4, 5, 15, 16, 17, 27, 28, 29], hτ := (fs [(.map ya), (.own yf), ya, yh, ya, ya, yc, ya, ya]), ex := 2, ot := [3, 4, 15, 16, 17], oτ := (fs [(.map ya), (.own yf), yh, ya, ya]) }
noncomputable def cd_impl_rename_62670 : Code := Code.part (bodyOf 278) [1, 1, 1, 0, 1, 0, 0, 1, 1, 0, 0, 1, 1, 1, 0, 0]
noncomputable def l_impl_rename_62670 (O : Oracle E1) (a0 : List (Int × Int)) (a1 : Yj) (a2 : Int) (a3 : Yj) (a4 : Int) (a5 : Int) (a6 : Yb) (a7 : Int) (a8 : Int) : Option (YB ⊕ Yg) := O.L 278 lh_impl_rename_62670 cd_impl_rename_62670 (a0, a1, a2, a3, a4, a5, a6, a7, a8, ())
noncomputable abbrev lh_slices_Equal_int_int_58 : LoopH := { key := 116, ht := [0, 1, 12, 13], hτ := (fs [yc, yc, ya, ya]), ex := 0, ot := [], oτ := (fs []) }
noncomputable def cd_slices_Equal_int_int_58 : Code := Code.part (bodyOf 264) [1, 1, 0, 1, 0, 0]
noncomputable def l_slices_Equal_int_int_58 (O : Oracle E1) (a0 : Yb) (a1 : Yb) (a2 : Int) (a3 : Int) : Option Yr := O.L 264 lh_slices_Equal_int_int_58 cd_slices_Equal_int_int_58 (a0, a1, a2, a3, ())
noncomputable abbrev lh_slices_IndexFunc_impl_Lit_impl_Lit__impl_tidy_1_26 : LoopH := { key := 52, ht := [0, 1, 7, 8], hτ := (fs [yg, (.fn 279 (fs [(.ptr yb)])), ya, ya]), ex := 0, ot := [], oτ := (fs []) }
noncomputable def cd_slices_IndexFunc_impl_Lit_impl_Lit__impl_tidy_1_26 : Code := Code.part (bodyOf 212) [1, 0, 1, 0, 0]
noncomputable def l_slices_IndexFunc_impl_Lit_impl_Lit__impl_tidy_1_26 (O : Oracle E1) (a0 : Yh) (a1 : Ya × Unit) (a2 : Int) (a3 : Int) : Option Yx := O.L 18350292 lh_slices_IndexFunc_impl_Lit_impl_Lit__impl_tidy_1_26 cd_slices_IndexFunc_impl_Lit_impl_Lit__impl_tidy_1_26 (a0, a1, a2, a3, ())
noncomputable abbrev lh_impl_tidy_58 : LoopH := { key := 116, ht := [3, 6, 7, 8], hτ := (fs [ym, yg, ya, ya]), ex := 0, ot := [3], oτ := (fs [ym]) }
noncomputable def cd_impl_tidy_58 : Code := Code.part (bodyOf 263) [1, 1, 0, 1, 0, 0]
noncomputable def l_impl_tidy_58 (O : Oracle E1) (a0 : Yh) (a1 : Yh) (a2 : Int) (a3 : Int) : Option Ys := O.L 263 lh_impl_tidy_58 cd_impl_tidy_58 (a0, a1, a2, a3, ())
noncomputable abbrev lh_impl_count_58 : LoopH := { key := 116, ht := [1, 5, 8, 9, 10], hτ := (fs [ya, ya, yc, ya, ya]), ex := 0, ot := [5], oτ := (fs [ya]) }
noncomputable def cd_impl_count_58 : Code := Code.part (bodyOf 288) [1, 1, 0, 1, 0, 0]
noncomputable def l_impl_count_58 (O : Oracle E1) (a0 : Int) (a1 : Int) (a2 : Yb) (a3 : Int) (a4 : Int) : Option (Yq ⊕ Ye) := O.L 288 lh_impl_count_58 cd_impl_count_58 (a0, a1, a2, a3, a4, ())
noncomputable abbrev lh_impl_coversVars_26 : LoopH := { key := 52, ht := [0, 1, 6], hτ := (fs [yc, yc, ya]), ex := 0, ot := [], oτ := (fs []) }
noncomputable def cd_impl_coversVars_26 : Code := Code.part (bodyOf 281) [1, 0, 1, 0, 0]
noncomputable def l_impl_coversVars_26 (O : Oracle E1) (a0 : Yb) (a1 : Yb) (a2 : Int) : Option Yr := O.L 281 lh_impl_coversVars_26 cd_impl_coversVars_26 (a0, a1, a2, ())
noncomputable abbrev lh_impl_isGreater_122 : LoopH := { key := 244, ht := [1, 23, 24, 25], hτ := (fs [yc, yc, ya, ya]), ex := 0, ot := [], oτ := (fs []) }
noncomputable def cd_impl_isGreater_122 : Code := Code.part (bodyOf 265) [1, 1, 1, 0, 1, 0, 0]
noncomputable def l_impl_isGreater_122 (O : Oracle E1) (a0 : Yb) (a1 : Yb) (a2 : Int) (a3 : Int) : Option Yr := O.L 265 lh_impl_isGreater_122 cd_impl_isGreater_122 (a0, a1, a2, a3, ())
noncomputable abbrev lh_slices_IndexFunc_SS_int_int__impl_isCovered_1_26 : LoopH := { key := 52, ht := [0, 1, 7, 8], hτ := (fs [yh, (.fn 289 yt), ya, ya]), ex := 0, ot := [], oτ := (fs []) }
noncomputable def cd_slices_IndexFunc_SS_int_int__impl_isCovered_1_26 : Code := Code.part (bodyOf 238) [1, 0, 1, 0, 0]
noncomputable def l_slices_IndexFunc_SS_int_int__impl_isCovered_1_26 (O : Oracle E1) (a0 : Yj) (a1 : Yf) (a2 : Int) (a3 : Int) : Option Yx := O.L 19005678 lh_slices_IndexFunc_SS_int_int__impl_isCovered_1_26 cd_slices_IndexFunc_SS_int_int__impl_isCovered_1_26 (a0, a1, a2, a3, ())
noncomputable abbrev lh_impl_isCovered_26 : LoopH := { key := 52, ht := [0, 7, 8, 9], hτ := (fs [yh, yh, ya, ya]), ex := 0, ot := [0], oτ := (fs [yh]) }
noncomputable def cd_impl_isCovered_26 : Code := Code.part (bodyOf 285) [1, 0, 1, 0, 0]
noncomputable def l_impl_isCovered_26 (O : Oracle E1) (a0 : Yj) (a1 : Yj) (a2 : Int) (a3 : Int) : Option ((Yj × Unit) ⊕ Yd) := O.L 285 lh_impl_isCovered_26 cd_impl_isCovered_26 (a0, a1, a2, a3, ())
noncomputable abbrev lh_slices_IndexFunc_SS_int_int__impl_compareLists_1_26 : LoopH := { key := 52, ht := [0, 1, 7, 8], hτ := (fs [yh, (.fn 283 yt), ya, ya]), ex := 0, ot := [], oτ := (fs []) }
noncomputable def cd_slices_IndexFunc_SS_int_int__impl_compareLists_1_26 : Code := Code.part (bodyOf 238) [1, 0, 1, 0, 0]
noncomputable def l_slices_IndexFunc_SS_int_int__impl_compareLists_1_26 (O : Oracle E1) (a0 : Yj) (a1 : Yf) (a2 : Int) (a3 : Int) : Option Yx := O.L 18612462 lh_slices_IndexFunc_SS_int_int__impl_compareLists_1_26 cd_slices_IndexFunc_SS_int_int__impl_compareLists_1_26 (a0, a1, a2, a3, ())
noncomputable abbrev lh_impl_compareLists_122 : LoopH := { key := 244, ht := [5, 6, 12, 13, 14], hτ := (fs [yi, yi, yh, ya, ya]), ex := 0, ot := [5, 6], oτ := (fs [yi, yi]) }
noncomputable def cd_impl_compareLists_122 : Code := Code.part (bodyOf 266) [1, 1, 1, 0, 1, 0, 0]
noncomputable def l_impl_compareLists_122 (O : Oracle E1) (a0 : Yj) (a1 : Yj) (a2 : Yj) (a3 : Int) (a4 : Int) : Option ((Yj × Yj × Unit) ⊕ Ye) := O.L 266 lh_impl_compareLists_122 cd_impl_compareLists_122 (a0, a1, a2, a3, a4, ())
noncomputable abbrev lh_impl_isMaximal_26 : LoopH := { key := 52, ht := [0, 1, 7, 8, 9], hτ := (fs [yg, ya, yg, ya, ya]), ex := 0, ot := [], oτ := (fs []) }
noncomputable def cd_impl_isMaximal_26 : Code := Code.part (bodyOf 161) [1, 0, 1, 0, 0]
noncomputable def l_impl_isMaximal_26 (O : Oracle E1) (a0 : Yh) (a1 : Int) (a2 : Yh) (a3 : Int) (a4 : Int) : Option Yr := O.L 161 lh_impl_isMaximal_26 cd_impl_isMaximal_26 (a0, a1, a2, a3, a4, ())
noncomputable abbrev lh_impl_Sign_waysInto_58 : LoopH := { key := 116, ht := [1, 2, 3, 7, 19, 20], hτ := (fs [yg, yg, yj, yn, ya, ya]), ex := 0, ot := [7], oτ := (fs [yn]) }
noncomputable def cd_impl_Sign_waysInto_58 : Code := Code.part (bodyOf 104) [1, 1, 0, 1, 0, 0]
noncomputable def l_impl_Sign_waysInto_58 (O : Oracle E1) (a0 : Yh) (a1 : Yh) (a2 : Yf) (a3 : YF) (a4 : Int) (a5 : Int) : Option ((YF × Unit) ⊕ Yk) := O.L 104 lh_impl_Sign_waysInto_58 cd_impl_Sign_waysInto_58 (a0, a1, a2, a3, a4, a5, ())
noncomputable abbrev lh_impl_Sign_waysInto_14950 : LoopH := { key := 29900, ht := [1, 2, 3, 7, 8, 19, 20, 23], hτ := (fs [yg, yg, yj, yn, ya, ya, ya, ya]), ex := 2, ot := [1, 2, 3, 7, 19, 20], oτ := (fs [yg, yg, yj, yn, ya, ya]) }
noncomputable def cd_impl_Sign_waysInto_14950 : Code := Code.part (bodyOf 104) [1, 1, 0, 1, 0, 0, 1, 1, 0, 0, 1, 1, 0, 0]
noncomputable def l_impl_Sign_waysInto_14950 (O : Oracle E1) (a0 : Yh) (a1 : Yh) (a2 : Yf) (a3 : YF) (a4 : Int) (a5 : Int) (a6 : Int) (a7 : Int) : Option Yy := O.L 104 lh_impl_Sign_waysInto_14950 cd_impl_Sign_waysInto_14950 (a0, a1, a2, a3, a4, a5, a6, a7, ())
noncomputable abbrev lh_impl_Sign_waysInto_3827302 : LoopH := { key := 7654604, ht := [1, 2, 3, 7, 8, 9, 19, 20, 23, 27, 28], hτ := (fs [yg, yg, yj, yn, ya, ya, ya, ya, ya, ya, ya]), ex := 4, ot := [1, 2, 3, 7, 8, 19, 20, 23], oτ := (fs [yg, yg, yj, yn, ya, ya, ya, ya]) }
noncomputable def cd_impl_Sign_waysInto_3827302 : Code := Code.part (bodyOf 104) [1, 1, 0, 1, 0, 0, 1, 1, 0, 0, 1, 1, 0, 0, 1, 1, 0, 0, 1, 1, 0, 0]
noncomputable def l_impl_Sign_waysInto_3827302 (O : Oracle E1) (a0 : Yh) (a1 : Yh) (a2 : Yf) (a3 : YF) (a4 : Int) (a5 : Int) (a6 : Int) (a7 : Int) (a8 : Int) (a9 : Int) (a10 : Int) : Option Yt := O.L 104 lh_impl_Sign_waysInto_3827302 cd_impl_Sign_waysInto_3827302 (a0, a1, a2, a3, a4, a5, a6, a7, a8, a9, a10, ())
noncomputable abbrev lh_impl_Sign_waysInto_979789414 : LoopH := { key := 1959578828, ht := [1, 2, 3, 7, 8, 9, 10, 19, 20, 23, 27, 28, 31], hτ := (fs [yg, yg, yj, yn, ya, ya, ya, ya, ya, ya, ya, ya, ya]), ex := 6, ot := [1, 2, 3, 7, 8, 9, 19, 20, 23, 27, 28], oτ := (fs [yg, yg, yj, yn, ya, ya, ya, ya, ya, ya, ya]) }
noncomputable def cd_impl_Sign_waysInto_979789414 : Code := Code.part (bodyOf 104) [1, 1, 0, 1, 0, 0, 1, 1, 0, 0, 1, 1, 0, 0, 1, 1, 0, 0, 1, 1, 0, 0, 1, 1, 0, 0, 1, 1, 0, 0]
noncomputable def l_impl_Sign_waysInto_979789414 (O : Oracle E1) (a0 : Yh) (a1 : Yh) (a2 : Yf) (a3 : YF) (a4 : Int) (a5 : Int) (a6 : Int) (a7 : Int) (a8 : Int) (a9 : Int) (a10 : Int) (a11 : Int) (a12 : Int) : Option ((Yh × Yh × Yf × YF × Int × Int × Int × Int × Int × Int × Int × Unit) ⊕ Yk) := O.L 104 lh_impl_Sign_waysInto_979789414 cd_impl_Sign_waysInto_979789414 (a0, a1, a2, a3, a4, a5, a6, a7, a8, a9, a10, a11, a12, ())
noncomputable abbrev lh_impl_Sign_waysInto_501652180174 : LoopH := { key := 1003304360348, ht := [1, 2, 3, 7, 8, 9, 10, 11, 19, 20, 23, 27, 28, 31, 44, 45], hτ := (fs [yg, yg, yj, yn, ya, ya, ya, ya, ya, ya, ya, ya, ya, ya, ya, ya]), ex := 8, ot := [1, 2, 3, 7, 8, 9, 10, 19, 20, 23, 27, 28, 31], oτ := (fs [yg, yg, yj, yn, ya, ya, ya, ya, ya, ya, ya, ya, ya]) }
noncomputable def cd_impl_Sign_waysInto_501652180174 : Code := Code.part (bodyOf 104) [1, 1, 0, 1, 0, 0, 1, 1, 0, 0, 1, 1, 0, 0, 1, 1, 0, 0, 1, 1, 0, 0, 1, 1, 0, 0, 1, 1, 0, 0, 1, 1, 0, 0, 1, 1, 1, 0, 0]
noncomputable def l_impl_Sign_waysInto_501652180174 (O : Oracle E1) (a0 : Yh) (a1 : Yh) (a2 : Yf) (a3 : YF) (a4 : Int) (a5 : Int) (a6 : Int) (a7 : Int) (a8 : Int) (a9 : Int) (a10 : Int) (a11 : Int) (a12 : Int) (a13 : Int) (a14 : Int) (a15 : Int) : Option (Yw ⊕ Yk) := O.L 104 lh_impl_Sign_waysInto_501652180174 cd_impl_Sign_waysInto_501652180174 (a0, a1, a2, a3, a4, a5, a6, a7, a8, a9, a10, a11, a12, a13, a14, a15, ())
noncomputable abbrev lh_laws_eqWayS_58 : LoopH := { key := 116, ht := [0, 1, 5], hτ := (fs [(.sl yd), (.sl yd), ya]), ex := 0, ot := [], oτ := (fs []) }
noncomputable def cd_laws_eqWayS_58 : Code := Code.part (bodyOf 40) [1, 1, 0, 1, 0, 0]
noncomputable def l_laws_eqWayS_58 (O : Oracle E1) (a0 : YF) (a1 : YF) (a2 : Int) : Option Yr := O.L 40 lh_laws_eqWayS_58 cd_laws_eqWayS_58 (a0, a1, a2, ())
noncomputable abbrev lh_laws_markWayS_26 : LoopH := { key := 52, ht := [0, 1, 5], hτ := (fs [yn, ya, ya]), ex := 0, ot := [0, 1], oτ := (fs [yn, ya]) }
noncomputable def cd_laws_markWayS_26 : Code := Code.part (bodyOf 41) [1, 0, 1, 0, 0]
noncomputable def l_laws_markWayS_26 (O : Oracle E1) (a0 : YF) (a1 : Int) (a2 : Int) : Option ((YF × Int × Unit) ⊕ (Yq × (YF × Unit))) := O.L 41 lh_laws_markWayS_26 cd_laws_markWayS_26 (a0, a1, a2, ())
noncomputable abbrev lh_laws_heldWayS_26 : LoopH := { key := 52, ht := [0, 1, 5], hτ := (fs [(.sl yd), ya, ya]), ex := 0, ot := [1], oτ := (fs [ya]) }
noncomputable def cd_laws_heldWayS_26 : Code := Code.part (bodyOf 42) [1, 0, 1, 0, 0]
noncomputable def l_laws_heldWayS_26 (O : Oracle E1) (a0 : YF) (a1 : Int) (a2 : Int) : Option (Yq ⊕ Ye) := O.L 42 lh_laws_heldWayS_26 cd_laws_heldWayS_26 (a0, a1, a2, ())
end Go.Proofs.YtpmjpijpjmphnaaGreatWi.Ev
