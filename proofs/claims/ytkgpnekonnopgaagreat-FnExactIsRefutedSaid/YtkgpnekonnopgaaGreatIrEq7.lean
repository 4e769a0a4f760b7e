/- A text of its own: Eq7; no condition but those that each theorem names. -/
import Derived.Test.YtkgpnekonnopgaaGreatIrNm
import Derived.KernelRfl
namespace Go.Proofs.YtkgpnekonnopgaaGreatIr.Ev
open Go Go.IntKind
set_option maxRecDepth 100000
set_option autoImplicit false
set_option linter.unusedVariables false
noncomputable def zht (O : Oracle E1) (a0 : YE) : Option Ye :=
  ((zD O a0 ()).bind fun r1 => (some ((r1.1.1, ()), ())))
theorem znj (a0) {r} (h : zht M a0 = some r) : zhB M a0 = some r := fixC (E := E1) ((fun O => (by kernel_rfl : zhB (Φ E1 O) a0 = zht O a0)) M) h
noncomputable def zer (O : Oracle E1) (a0 : Yg) (a1 : YD) (a2 : YE) : Option YM :=
  ((zfz O (a0.1, ()) a1 a2).bind fun r1 => (if (!r1.1.2.2.1) = true then (some ((false, false, ()), ())) else ((zis O (a0.1, ()) a2).bind fun r2 => (if (!r2.1.1) = true then (some ((false, false, ()), ())) else (if (r1.1.1 == 0) = true then ((zhB O a2).bind fun r3 => (some (((decide (r3.1.1 ≥ 0)), true, ()), ()))) else (some ((false, true, ()), ())))))))
theorem zib (a0) (a1) (a2) {r} (h : zer M a0 a1 a2 = some r) : zir M a0 a1 a2 = some r := fixC (E := E1) ((fun O => (by kernel_rfl : zir (Φ E1 O) a0 a1 a2 = zer O a0 a1 a2)) M) h
noncomputable def zbO (O : Oracle E1) (a0 : Yg) (a1 : YD) (a2 : YE) : Option Yc :=
  ((zkb O (a0.1, ()) (1048576 : Int)).bind fun r1 => (if (decide (r1.1.1 < 0)) = true then (some ((true, ()), ())) else ((zjC O a1 r1.1.1).bind fun r2 => (if (decide (r2.1.1 < 0)) = true then (some ((true, ()), ())) else ((zjv O a2 r2.1.1).bind fun r3 => (if (decide (r3.1.1 < 0)) = true then (some ((true, ()), ())) else ((zgB O (a0.1, ())).bind fun r4 => ((zfX O a1).bind fun r5 => ((zfW O a2).bind fun r6 => ((zig O (r4.1.1.1, ()) r5.1.1 r6.1.1).bind fun r7 => ((zgB O (a0.1, ())).bind fun r8 => ((zfX O a1).bind fun r9 => ((zfW O a2).bind fun r10 => ((zir O (r8.1.1.1, ()) r9.1.1 r10.1.1).bind fun r11 => (if (!(r11.1.1 == r7.1.1)) = true then (some ((false, ()), ())) else (if (!(r11.1.2.1 == r7.1.2.1)) = true then (some ((false, ()), ())) else ((zgB O (a0.1, ())).bind fun r12 => ((zkq O (r8.1.1.1, ()) (r12.1.1.1, ())).bind fun r13 => (if (!r13.1.1) = true then (some ((false, ()), ())) else ((zfX O a1).bind fun r14 => ((zjJ O r9.1.1 r14.1.1).bind fun r15 => (if (!r15.1.1) = true then (some ((false, ()), ())) else ((zfW O a2).bind fun r16 => ((zjB O r10.1.1 r16.1.1).bind fun r17 => (if (!r17.1.1) = true then (some ((false, ()), ())) else (some ((true, ()), ())))))))))))))))))))))))))))
theorem zok (a0) (a1) (a2) {r} (h : zbO M a0 a1 a2 = some r) : zd2 M a0 a1 a2 = some r := fixC (E := E1) ((fun O => (by kernel_rfl : zd2 (Φ E1 O) a0 a1 a2 = zbO O a0 a1 a2)) M) h
end Go.Proofs.YtkgpnekonnopgaaGreatIr.Ev
