/- A text of its own: Nm; no condition but those that each theorem names. -/
import Derived.Test.YtpdbffngomlleaaDoorPtEnv
import Derived.Test.YtpdbffngomlleaaDoorPtEvIt
namespace Go.Proofs.YtpdbffngomlleaaDoorPt.Ev
open Go Go.IntKind
set_option maxRecDepth 100000
set_option autoImplicit false
set_option linter.unusedVariables false
abbrev Ya := Bool × (List Int) × (List Int) × Unit
abbrev Yb := Int × (List Int) × (List Int) × (List Ya) × Unit
abbrev Yc := (Bool × Unit) × (Unit)
abbrev Yd := ((List UInt8) × Unit) × (Unit)
abbrev Ye := List Int
abbrev Yf := (Int × Unit) × (Unit)
abbrev Yg := Ye × Unit
abbrev Yh := List UInt8
abbrev Yi := (Yh × Bool × Unit) × (Unit)
abbrev Yj := (Yg × Yh × Ya × (List Ya) × Int × Int × Unit) ⊕ ((Yh × Unit) ⊕ (Yd))
abbrev Yk := Yg × (Unit)
abbrev Yl := Yh × Unit
abbrev Ym := (List Ya) × Unit
abbrev Yn := (Ye × Int × Unit) × (Unit)
abbrev Yo := (Int × Unit) ⊕ Yf
abbrev Yp := (Yg × Yb × Yh × Unit) ⊕ Yd
noncomputable abbrev M : Oracle E1 := Lm E1
noncomputable def zaq (O : Oracle E1) (a0 : Ye) (a1 : Int) : Option Yf := O.C 12 (a0, a1, ())
noncomputable def zcD (O : Oracle E1) (a0 : Yg) (a1 : Int) : Option Yf := O.C 4 (a0, a1, ())
noncomputable def zc0 (O : Oracle E1) (a0 : Ya) (a1 : Int) : Option Yf := O.C 48 (a0, a1, ())
noncomputable def zcJ (O : Oracle E1) (a0 : List Ya) (a1 : Int) : Option Yf := O.C 29 (a0, a1, ())
noncomputable def zcN (O : Oracle E1) (a0 : Yb) (a1 : Int) : Option Yf := O.C 13 (a0, a1, ())
noncomputable def zcr (O : Oracle E1) (a0 : List Yb) (a1 : Int) : Option Yf := O.C 5 (a0, a1, ())
noncomputable def za8 (O : Oracle E1) (a0 : Int) (a1 : Int) (a2 : Int) : Option Yc := O.C 30 (a0, a1, a2, ())
noncomputable def zbQ (O : Oracle E1) (a0 : Ye) (a1 : Int) (a2 : Int) : Option Yc := O.C 31 (a0, a1, a2, ())
noncomputable def zbA (O : Oracle E1) (a0 : Yg) : Option Yc := O.C 14 (a0, ())
noncomputable def zcp (O : Oracle E1) (a0 : Yg) (a1 : Ye) (a2 : Int) : Option Yf := O.C 79 (a0, a1, a2, ())
noncomputable def zb6 (O : Oracle E1) (a0 : Yg) (a1 : Ye) : Option Yc := O.C 71 (a0, a1, ())
noncomputable def zc1 (O : Oracle E1) (a0 : Yg) (a1 : Ya) : Option Yc := O.C 62 (a0, a1, ())
noncomputable def zcd (O : Oracle E1) (a0 : Yg) (a1 : List Ya) : Option Yc := O.C 49 (a0, a1, ())
noncomputable def zbK (O : Oracle E1) (a0 : Yg) (a1 : List Ya) : Option Yc := O.C 32 (a0, a1, ())
noncomputable def zcq (O : Oracle E1) (a0 : Yg) (a1 : Yb) : Option Yc := O.C 15 (a0, a1, ())
noncomputable def zaK (O : Oracle E1) (a0 : Int) : Option Yd := O.C 33 (a0, ())
noncomputable def zcv (O : Oracle E1) (a0 : Int) : Option Yd := O.C 50 (a0, ())
noncomputable def zcK (O : Oracle E1) (a0 : Yg) (a1 : Ye) (a2 : Int) : Option Yk := O.C 72 (a0, a1, a2, ())
noncomputable def zW (O : Oracle E1) (a0 : Yg) (a1 : Ye) (a2 : Int) : Option Yd := O.C 63 (a0, a1, a2, ())
noncomputable def zcM (O : Oracle E1) (a0 : Yg) (a1 : List Ya) : Option Yd := O.C 51 (a0, a1, ())
noncomputable def zcu (O : Oracle E1) (a0 : Yg) (a1 : Yb) : Option Yd := O.C 34 (a0, a1, ())
noncomputable def zce (O : Oracle E1) (a0 : Yg) (a1 : List Yb) : Option Yd := O.C 16 (a0, a1, ())
noncomputable def zb3 (O : Oracle E1) (a0 : Yg) (a1 : List Yb) : Option Yi := O.C 6 (a0, a1, ())
noncomputable def zar (O : Oracle E1) (a0 : Ye) : Option Yk := O.C 17 (a0, ())
noncomputable def zbq (O : Oracle E1) (a0 : Yg) : Option ((Yg × Unit) × (Unit)) := O.C 7 (a0, ())
noncomputable def zc5 (O : Oracle E1) (a0 : Ya) : Option ((Ya × Unit) × (Unit)) := O.C 52 (a0, ())
noncomputable def zcO (O : Oracle E1) (a0 : List Ya) : Option (Ym × (Unit)) := O.C 35 (a0, ())
noncomputable def zcG (O : Oracle E1) (a0 : Yb) : Option ((Yb × Unit) × (Unit)) := O.C 18 (a0, ())
noncomputable def zbb (O : Oracle E1) (a0 : List Yb) : Option (((List Yb) × Unit) × (Unit)) := O.C 8 (a0, ())
noncomputable def zbN (O : Oracle E1) (a0 : Int) : Option Yc := O.C 37 (a0, ())
noncomputable def zP (O : Oracle E1) (a0 : Ye) (a1 : Unit) : Option Yf := O.C 2490421 (a0, a1, ())
noncomputable def zA (O : Oracle E1) (a0 : Ye) (a1 : Unit) : Option Yc := O.C 2490404 (a0, a1, ())
noncomputable def zcc (O : Oracle E1) (a0 : Yg) : Option Yc := O.C 19 (a0, ())
noncomputable def z7 (O : Oracle E1) (a0 : Yh) (a1 : Yh) : Option ((Int × Unit × Unit) × Yl) := O.C 23 (a0, a1, ())
noncomputable def zbc (O : Oracle E1) (a0 : Int) : Option Yd := O.C 24 (a0, ())
noncomputable def zcH (O : Oracle E1) (a0 : Int) : Option Yd := O.C 44 (a0, ())
noncomputable def zbO (O : Oracle E1) (a0 : Ye) : Option Yd := O.C 45 (a0, ())
noncomputable def zaf (O : Oracle E1) (a0 : Yg) (a1 : Int) : Option Yf := O.C 73 (a0, a1, ())
noncomputable def zaA (O : Oracle E1) (a0 : Yg) (a1 : Ye) (a2 : Ye) (a3 : Int) : Option Yn := O.C 70 (a0, a1, a2, a3, ())
noncomputable def zan (O : Oracle E1) (a0 : Yg) (a1 : Ye) : Option Yd := O.C 60 (a0, a1, ())
noncomputable def zaG (O : Oracle E1) (a0 : Yg) (a1 : List Ya) : Option Yd := O.C 46 (a0, a1, ())
noncomputable def za7 (O : Oracle E1) (a0 : Yg) (a1 : Yb) : Option Yd := O.C 25 (a0, a1, ())
noncomputable def zam (O : Oracle E1) (a0 : Yh) : Option Yd := O.C 26 (a0, ())
noncomputable def zaL (O : Oracle E1) (a0 : Yg) (a1 : Ye) : Option Yc := O.C 65 (a0, a1, ())
noncomputable def zbM (O : Oracle E1) (a0 : Yg) (a1 : Ya) : Option Yc := O.C 56 (a0, a1, ())
noncomputable def zaH (O : Oracle E1) (a0 : Ya) (a1 : Yg) : Option Yc := O.C 55 (a0, a1, ())
noncomputable def zy (O : Oracle E1) (a0 : List Ya) (a1 : Yg × Unit) : Option Yf := O.C 3670080 (a0, a1, ())
noncomputable def zg (O : Oracle E1) (a0 : List Ya) (a1 : Yg × Unit) : Option Yc := O.C 3670070 (a0, a1, ())
noncomputable def za3 (O : Oracle E1) (a0 : Yg) (a1 : List Ya) : Option Yc := O.C 39 (a0, a1, ())
noncomputable def zaw (O : Oracle E1) (a0 : List Ye) : Option Yk := O.C 40 (a0, ())
noncomputable def za4 (O : Oracle E1) (a0 : Int) : Option Yc := O.C 41 (a0, ())
noncomputable def zM (O : Oracle E1) (a0 : Ye) (a1 : Unit) : Option Yf := O.C 2752565 (a0, a1, ())
noncomputable def zt (O : Oracle E1) (a0 : Ye) (a1 : Unit) : Option Yc := O.C 2752548 (a0, a1, ())
noncomputable def zby (O : Oracle E1) (a0 : Yg) (a1 : Yb) : Option Yc := O.C 22 (a0, a1, ())
noncomputable def zbB (O : Oracle E1) (a0 : Yb) (a1 : Yg) : Option Yc := O.C 21 (a0, a1, ())
noncomputable def zC (O : Oracle E1) (a0 : List Yb) (a1 : Yg × Unit) : Option Yf := O.C 1441830 (a0, a1, ())
noncomputable def zi (O : Oracle E1) (a0 : List Yb) (a1 : Yg × Unit) : Option Yc := O.C 1441812 (a0, a1, ())
noncomputable def zbU (O : Oracle E1) (a0 : Yg) (a1 : List Yb) : Option Yi := O.C 9 (a0, a1, ())
noncomputable def zas (O : Oracle E1) (a0 : Ye) (a1 : Ye) : Option Yc := O.C 27 (a0, a1, ())
noncomputable def zcI (O : Oracle E1) (a0 : Yg) (a1 : Yg) : Option Yc := O.C 10 (a0, a1, ())
noncomputable def zc9 (O : Oracle E1) (a0 : Ya) (a1 : Ya) : Option Yc := O.C 61 (a0, a1, ())
noncomputable def zcE (O : Oracle E1) (a0 : List Ya) (a1 : List Ya) : Option Yc := O.C 47 (a0, a1, ())
noncomputable def zcL (O : Oracle E1) (a0 : Yb) (a1 : Yb) : Option Yc := O.C 28 (a0, a1, ())
noncomputable def zct (O : Oracle E1) (a0 : List Yb) (a1 : List Yb) : Option Yc := O.C 11 (a0, a1, ())
noncomputable def zav (O : Oracle E1) (a0 : Yg) (a1 : List Yb) : Option Yc := O.C 3 (a0, a1, ())
noncomputable abbrev zfx : LoopH := { key := 244, ht := [0, 1, 5], hτ := (fs [yj, yc, yc]), ex := 0, ot := [1], oτ := (fs [yc]) }
noncomputable def zfn : Code := Code.part (bodyOf 29) [1, 1, 1, 0, 1, 0, 0]
noncomputable def zaV (O : Oracle E1) (a0 : List Ya) (a1 : Int) (a2 : Int) : Option Yo := O.L 29 zfx zfn (a0, a1, a2, ())
noncomputable abbrev zfa : LoopH := { key := 244, ht := [0, 1, 5], hτ := (fs [yl, yc, yc]), ex := 0, ot := [1], oτ := (fs [yc]) }
noncomputable def ze8 : Code := Code.part (bodyOf 5) [1, 1, 1, 0, 1, 0, 0]
noncomputable def zaJ (O : Oracle E1) (a0 : List Yb) (a1 : Int) (a2 : Int) : Option Yo := O.L 5 zfa ze8 (a0, a1, a2, ())
noncomputable abbrev zf8 : LoopH := { key := 52, ht := [1, 2, 9, 10, 11], hτ := (fs [yc, yc, ya, yc, yc]), ex := 0, ot := [], oτ := (fs []) }
noncomputable def zf4 : Code := Code.part (bodyOf 31) [1, 0, 1, 0, 0]
noncomputable def zbv (O : Oracle E1) (a0 : Int) (a1 : Int) (a2 : Ye) (a3 : Int) (a4 : Int) : Option ((Unit) ⊕ Yc) := O.L 31 zf8 zf4 (a0, a1, a2, a3, a4, ())
noncomputable abbrev zf9 : LoopH := { key := 56, ht := [1, 2, 3, 7], hτ := (fs [ya, yc, yh, yc]), ex := 0, ot := [2], oτ := (fs [yc]) }
noncomputable def zf6 : Code := Code.part (bodyOf 79) [1, 1, 0, 0, 0]
noncomputable def zbz (O : Oracle E1) (a0 : Ye) (a1 : Int) (a2 : Yg) (a3 : Int) : Option Yo := O.L 79 zf9 zf6 (a0, a1, a2, a3, ())
noncomputable abbrev ze7 : LoopH := { key := 52, ht := [1, 2, 7, 8, 9], hτ := (fs [yj, yh, yj, yc, yc]), ex := 0, ot := [1], oτ := (fs [yj]) }
noncomputable def ze5 : Code := Code.part (bodyOf 49) [1, 0, 1, 0, 0]
noncomputable def zaP (O : Oracle E1) (a0 : List Ya) (a1 : Yg) (a2 : List Ya) (a3 : Int) (a4 : Int) : Option (Ym ⊕ Yc) := O.L 49 ze7 ze5 (a0, a1, a2, a3, a4, ())
noncomputable abbrev zfr : LoopH := { key := 500, ht := [1, 3, 7, 8, 9], hτ := (fs [ya, yh, (.own yc), yc, yc]), ex := 0, ot := [7], oτ := yn }
noncomputable def zfp : Code := Code.part (bodyOf 72) [1, 1, 1, 1, 0, 1, 0, 0]
noncomputable def zaY (O : Oracle E1) (a0 : Ye) (a1 : Yg) (a2 : Ye) (a3 : Int) (a4 : Int) : Option (Yg ⊕ Yk) := O.L 72 zfr zfp (a0, a1, a2, a3, a4, ())
noncomputable abbrev zeF : LoopH := { key := 244, ht := [1, 2, 3, 7, 35, 36, 37], hτ := (fs [ya, yc, yh, .str, (.own yc), yc, yc]), ex := 0, ot := [1, 2, 3, 7], oτ := (fs [ya, yc, yh, .str]) }
noncomputable def zeC : Code := Code.part (bodyOf 63) [1, 1, 1, 0, 1, 0, 0]
noncomputable def z6 (O : Oracle E1) (a0 : Ye) (a1 : Int) (a2 : Yg) (a3 : Yh) (a4 : Ye) (a5 : Int) (a6 : Int) : Option ((Ye × Int × Yg × Yh × Unit) ⊕ Yd) := O.L 63 zeF zeC (a0, a1, a2, a3, a4, a5, a6, ())
noncomputable abbrev zfq : LoopH := { key := 244, ht := [2, 5, 11, 12, 13], hτ := (fs [yh, .str, yj, yc, yc]), ex := 0, ot := [5], oτ := yk }
noncomputable def zfi : Code := Code.part (bodyOf 51) [1, 1, 1, 0, 1, 0, 0]
noncomputable def zaU (O : Oracle E1) (a0 : Yg) (a1 : Yh) (a2 : List Ya) (a3 : Int) (a4 : Int) : Option (Yl ⊕ Yd) := O.L 51 zfq zfi (a0, a1, a2, a3, a4, ())
noncomputable abbrev zfw : LoopH := { key := 116, ht := [2, 3, 5, 14, 15, 16], hτ := yo, ex := 0, ot := [2, 3, 5], oτ := (fs [yh, (.box yb), .str]) }
noncomputable def zfh : Code := Code.part (bodyOf 34) [1, 1, 0, 1, 0, 0]
noncomputable def za0 (O : Oracle E1) (a0 : Yg) (a1 : Yb) (a2 : Yh) (a3 : Ye) (a4 : Int) (a5 : Int) : Option Yp := O.L 34 zfw zfh (a0, a1, a2, a3, a4, a5, ())
noncomputable abbrev ze4 : LoopH := { key := 500, ht := [2, 3, 5, 29, 30, 31], hτ := yo, ex := 2, ot := [2, 3, 5], oτ := (fs [yh, (.box yb), .str]) }
noncomputable def ze3 : Code := Code.part (bodyOf 34) [1, 1, 1, 1, 0, 1, 0, 0]
noncomputable def zaQ (O : Oracle E1) (a0 : Yg) (a1 : Yb) (a2 : Yh) (a3 : Ye) (a4 : Int) (a5 : Int) : Option Yp := O.L 34 ze4 ze3 (a0, a1, a2, a3, a4, a5, ())
noncomputable abbrev ze6 : LoopH := { key := 116, ht := [2, 5, 8, 9, 10], hτ := (fs [yh, .str, yl, yc, yc]), ex := 0, ot := [5], oτ := yk }
noncomputable def ze9 : Code := Code.part (bodyOf 16) [1, 1, 0, 1, 0, 0]
noncomputable def zaI (O : Oracle E1) (a0 : Yg) (a1 : Yh) (a2 : List Yb) (a3 : Int) (a4 : Int) : Option (Yl ⊕ Yd) := O.L 16 ze6 ze9 (a0, a1, a2, a3, a4, ())
noncomputable abbrev zeT : LoopH := { key := 116, ht := [1, 2, 16, 17, 18], hτ := (fs [yl, yh, yl, yc, yc]), ex := 0, ot := [1, 2], oτ := (fs [yl, yh]) }
noncomputable def zeV : Code := Code.part (bodyOf 6) [1, 1, 0, 1, 0, 0]
noncomputable def zay (O : Oracle E1) (a0 : List Yb) (a1 : Yg) (a2 : List Yb) (a3 : Int) (a4 : Int) : Option (((List Yb) × Yg × Unit) ⊕ Yi) := O.L 6 zeT zeV (a0, a1, a2, a3, a4, ())
noncomputable abbrev zfJ : LoopH := { key := 116, ht := [0, 3, 4], hτ := (fs [ya, (.own yc), yc]), ex := 0, ot := [3], oτ := yn }
noncomputable def zfH : Code := Code.part (bodyOf 17) [1, 1, 0, 1, 0, 0]
noncomputable def zbg (O : Oracle E1) (a0 : Ye) (a1 : Ye) (a2 : Int) : Option (Yg ⊕ Yk) := O.L 17 zfJ zfH (a0, a1, a2, ())
noncomputable abbrev zfT : LoopH := { key := 116, ht := [0, 3, 4], hτ := (fs [yj, (.own yi), yc]), ex := 0, ot := [3], oτ := (fs [(.own yi)]) }
noncomputable def zfI : Code := Code.part (bodyOf 35) [1, 1, 0, 1, 0, 0]
noncomputable def zbd (O : Oracle E1) (a0 : List Ya) (a1 : List Ya) (a2 : Int) : Option (Ym ⊕ (Ym × (Unit))) := O.L 35 zfT zfI (a0, a1, a2, ())
noncomputable abbrev zfc : LoopH := { key := 116, ht := [0, 3, 4], hτ := (fs [yl, (.own yf), yc]), ex := 0, ot := [3], oτ := (fs [(.own yf)]) }
noncomputable def zfy : Code := Code.part (bodyOf 8) [1, 1, 0, 1, 0, 0]
noncomputable def zaX (O : Oracle E1) (a0 : List Yb) (a1 : List Yb) (a2 : Int) : Option (((List Yb) × Unit) ⊕ (((List Yb) × Unit) × (Unit))) := O.L 8 zfc zfy (a0, a1, a2, ())
noncomputable abbrev zbl : LoopH := { key := 52, ht := [0, 1, 7, 8], hτ := (fs [ya, (.fn 37 (fs [])), yc, yc]), ex := 0, ot := [], oτ := (fs []) }
noncomputable def zbm : Code := Code.part (bodyOf 53) [1, 0, 1, 0, 0]
noncomputable def zp (O : Oracle E1) (a0 : Ye) (a1 : Unit) (a2 : Int) (a3 : Int) : Option ((Unit) ⊕ Yf) := O.L 2490421 zbl zbm (a0, a1, a2, a3, ())
noncomputable abbrev zfo : LoopH := { key := 116, ht := [3, 6, 7, 8], hτ := (fs [.str, ya, yc, yc]), ex := 0, ot := [3], oτ := yk }
noncomputable def zfD : Code := Code.part (bodyOf 45) [1, 1, 0, 1, 0, 0]
noncomputable def zaW (O : Oracle E1) (a0 : Yh) (a1 : Ye) (a2 : Int) (a3 : Int) : Option (Yl ⊕ Yd) := O.L 45 zfo zfD (a0, a1, a2, a3, ())
noncomputable abbrev zeP : LoopH := { key := 1012, ht := [1, 2, 4, 10, 11, 39, 40], hτ := (fs [yp, ya, yh, yc, yc, yc, yc]), ex := 0, ot := [1, 4, 10, 11], oτ := (fs [yp, yh, yc, yc]) }
noncomputable def zeJ : Code := Code.part (bodyOf 70) [1, 1, 1, 1, 1, 0, 1, 0, 0]
noncomputable def z8 (O : Oracle E1) (a0 : Ye) (a1 : Ye) (a2 : Yg) (a3 : Int) (a4 : Int) (a5 : Int) (a6 : Int) : Option ((Ye × Yg × Int × Int × Unit) ⊕ Yn) := O.L 70 zeP zeJ (a0, a1, a2, a3, a4, a5, a6, ())
noncomputable abbrev zdy : LoopH := { key := 244, ht := [2, 5, 12, 13, 14], hτ := (fs [yh, .str, yj, yc, yc]), ex := 0, ot := [5], oτ := yk }
noncomputable def zdH : Code := Code.part (bodyOf 46) [1, 1, 1, 0, 1, 0, 0]
noncomputable def zV (O : Oracle E1) (a0 : Yg) (a1 : Yh) (a2 : List Ya) (a3 : Int) (a4 : Int) : Option (Yl ⊕ Yd) := O.L 46 zdy zdH (a0, a1, a2, a3, a4, ())
noncomputable abbrev zev : LoopH := { key := 244, ht := [2, 5, 11, 12, 13], hτ := (fs [yh, yc, ya, yc, yc]), ex := 0, ot := [5], oτ := (fs [yc]) }
noncomputable def zeu : Code := Code.part (bodyOf 65) [1, 1, 1, 0, 1, 0, 0]
noncomputable def zN (O : Oracle E1) (a0 : Yg) (a1 : Int) (a2 : Ye) (a3 : Int) (a4 : Int) : Option ((Int × Unit) ⊕ Yc) := O.L 65 zev zeu (a0, a1, a2, a3, a4, ())
noncomputable abbrev zah : LoopH := { key := 52, ht := [0, 1, 7, 8], hτ := (fs [yj, (.fn 55 ym), yc, yc]), ex := 0, ot := [], oτ := (fs []) }
noncomputable def zag : Code := Code.part (bodyOf 64) [1, 0, 1, 0, 0]
noncomputable def zb (O : Oracle E1) (a0 : List Ya) (a1 : Yg × Unit) (a2 : Int) (a3 : Int) : Option ((Unit) ⊕ Yf) := O.L 3670080 zah zag (a0, a1, a2, a3, ())
noncomputable abbrev zdD : LoopH := { key := 116, ht := [0, 3, 9, 10, 11], hτ := (fs [(.sl ya), yc, (.sl ya), yc, yc]), ex := 0, ot := [0, 3], oτ := (fs [(.sl ya), yc]) }
noncomputable def zdz : Code := Code.part (bodyOf 40) [1, 1, 0, 1, 0, 0]
noncomputable def zH (O : Oracle E1) (a0 : List Ye) (a1 : Int) (a2 : List Ye) (a3 : Int) (a4 : Int) : Option (((List Ye) × Int × Unit) ⊕ Yk) := O.L 40 zdD zdz (a0, a1, a2, a3, a4, ())
noncomputable abbrev zdr : LoopH := { key := 500, ht := [6, 25, 26, 27], hτ := (fs [(.own yc), (.sl ya), yc, yc]), ex := 2, ot := [6], oτ := yn }
noncomputable def zdm : Code := Code.part (bodyOf 40) [1, 1, 1, 1, 0, 1, 0, 0]
noncomputable def zF (O : Oracle E1) (a0 : Ye) (a1 : List Ye) (a2 : Int) (a3 : Int) : Option (Yg ⊕ Yk) := O.L 40 zdr zdm (a0, a1, a2, a3, ())
noncomputable abbrev za2 : LoopH := { key := 52, ht := [0, 1, 7, 8], hτ := (fs [ya, (.fn 41 (fs [])), yc, yc]), ex := 0, ot := [], oτ := (fs []) }
noncomputable def za6 : Code := Code.part (bodyOf 53) [1, 0, 1, 0, 0]
noncomputable def zj (O : Oracle E1) (a0 : Ye) (a1 : Unit) (a2 : Int) (a3 : Int) : Option ((Unit) ⊕ Yf) := O.L 2752565 za2 za6 (a0, a1, a2, a3, ())
noncomputable abbrev zal : LoopH := { key := 52, ht := [0, 1, 7, 8], hτ := (fs [yl, (.fn 21 ym), yc, yc]), ex := 0, ot := [], oτ := (fs []) }
noncomputable def zao : Code := Code.part (bodyOf 38) [1, 0, 1, 0, 0]
noncomputable def ze (O : Oracle E1) (a0 : List Yb) (a1 : Yg × Unit) (a2 : Int) (a3 : Int) : Option ((Unit) ⊕ Yf) := O.L 1441830 zal zao (a0, a1, a2, a3, ())
noncomputable abbrev zeM : LoopH := { key := 244, ht := [2, 6, 22, 23, 24], hτ := (fs [(.ptr ye), (.sb 55 5), yl, yc, yc]), ex := 0, ot := [6], oτ := (fs [(.sb 55 5)]) }
noncomputable def zeL : Code := Code.part (bodyOf 9) [1, 1, 1, 0, 1, 0, 0]
noncomputable def zaj (O : Oracle E1) (a0 : Yg) (a1 : Yh) (a2 : List Yb) (a3 : Int) (a4 : Int) : Option (Yl ⊕ Yi) := O.L 9 zeM zeL (a0, a1, a2, a3, a4, ())
noncomputable abbrev zfQ : LoopH := { key := 116, ht := [0, 1, 5], hτ := (fs [ya, ya, yc]), ex := 0, ot := [], oτ := (fs []) }
noncomputable def zfM : Code := Code.part (bodyOf 27) [1, 1, 0, 1, 0, 0]
noncomputable def zbe (O : Oracle E1) (a0 : Ye) (a1 : Ye) (a2 : Int) : Option ((Unit) ⊕ Yc) := O.L 27 zfQ zfM (a0, a1, a2, ())
noncomputable abbrev zfN : LoopH := { key := 116, ht := [0, 1, 5], hτ := (fs [yj, yj, yc]), ex := 0, ot := [], oτ := (fs []) }
noncomputable def zfG : Code := Code.part (bodyOf 47) [1, 1, 0, 1, 0, 0]
noncomputable def zbf (O : Oracle E1) (a0 : List Ya) (a1 : List Ya) (a2 : Int) : Option ((Unit) ⊕ Yc) := O.L 47 zfN zfG (a0, a1, a2, ())
noncomputable abbrev zft : LoopH := { key := 116, ht := [0, 1, 5], hτ := (fs [yl, yl, yc]), ex := 0, ot := [], oτ := (fs []) }
noncomputable def zfv : Code := Code.part (bodyOf 11) [1, 1, 0, 1, 0, 0]
noncomputable def za1 (O : Oracle E1) (a0 : List Yb) (a1 : List Yb) (a2 : Int) : Option ((Unit) ⊕ Yc) := O.L 11 zft zfv (a0, a1, a2, ())
end Go.Proofs.YtpdbffngomlleaaDoorPt.Ev
