/- A text of its own: Sh; no condition but those that each theorem names. -/
import Derived.Shelf.SlicesE.Delete
import Derived.Test.YtchkojfhcdcnmaaGreatProg
namespace Go.Proofs
open Go.Shelf
def Tryz.laysSlE45_f180_ren:Go.Shelf.Ren:=⟨fun | 45=>180 | n=>n,fun | 22=>22 | 23=>3 | 3=>3 | 4=>4 | 0=>0 | n=>n,fun | n=>n⟩
theorem Tryz.laysSlE45_f180:Go.Proofs.SlLaysE.n45 Tryz.prog Tryz.laysSlE45_f180_ren:= {
  mixed:=by kernel_rfl
  f45:=⟨Tryz.f180.name,by decide,Tryz.func180.trans (congrArg some (by kernel_rfl))⟩
  t0:=Tryz.underlying0
  a0:=Tryz.isAgg0
  z0:=Tryz.sizeOf0
  v0:=Tryz.zeroValue0
  t3:=Tryz.underlying3
  a3:=Tryz.isAgg3
  z3:=Tryz.sizeOf3
  v3:=Tryz.zeroValue3
  t4:=Tryz.underlying4
  a4:=Tryz.isAgg4
  z4:=Tryz.sizeOf4
  v4:=Tryz.zeroValue4
  t22:=Tryz.underlying22
  a22:=Tryz.isAgg22
  z22:=Tryz.sizeOf22
  v22:=Tryz.zeroValue22
  a23:=Tryz.isAgg3
  z23:=Tryz.sizeOf3}
open Go.RowKit Go.Lib Go.Sort in
theorem Tryz.slices_Delete_f180 {α:Type} [Inhabited α] (enc:α->Value) (h1:OneCell enc) (zr:α) (v23: ∀w,(zeroValue 3).run Tryz.prog w= .ok (enc zr) w) (i0:TypeInfo) (hi0:Tryz.prog.info? 3=some i0) (hz1:i0.size=1) (blk off cap i j:Nat) (d:Array α) (w:World) (hH:Holds enc w blk off d) (hcap:d.size<=cap) (hm:cap<=9223372036854775807) (hij:i<=j) (hj:j<=d.size):
    Calls Tryz.prog 180 #[.slice (some ⟨blk,off,none⟩) d.size cap,.int .i64 i,.int .i64 j] w fun e w'=>e= .returned (.slice (some ⟨blk,off,none⟩) (d.size-(j-i)) cap)∧ ∃q,w'=putRow enc (Sort.ahead w q) blk off (d.toList.take i++d.toList.drop j++List.replicate (j-i) zr).toArray:=AnyE.slices_Delete Tryz.laysSlE45_f180 enc h1 zr v23 i0 hi0 hz1 blk off cap i j d w hH hcap hm hij hj
def Tryz.laysSlE45_f328_ren:Go.Shelf.Ren:=⟨fun | 45=>328 | n=>n,fun | 22=>54 | 23=>22 | 3=>3 | 4=>4 | 0=>0 | n=>n,fun | n=>n⟩
theorem Tryz.laysSlE45_f328:Go.Proofs.SlLaysE.n45 Tryz.prog Tryz.laysSlE45_f328_ren:= {
  mixed:=by kernel_rfl
  f45:=⟨Tryz.f328.name,by decide,Tryz.func328.trans (congrArg some (by kernel_rfl))⟩
  t0:=Tryz.underlying0
  a0:=Tryz.isAgg0
  z0:=Tryz.sizeOf0
  v0:=Tryz.zeroValue0
  t3:=Tryz.underlying3
  a3:=Tryz.isAgg3
  z3:=Tryz.sizeOf3
  v3:=Tryz.zeroValue3
  t4:=Tryz.underlying4
  a4:=Tryz.isAgg4
  z4:=Tryz.sizeOf4
  v4:=Tryz.zeroValue4
  t22:=Tryz.underlying54
  a22:=Tryz.isAgg54
  z22:=Tryz.sizeOf54
  v22:=Tryz.zeroValue54
  a23:=Tryz.isAgg22
  z23:=Tryz.sizeOf22}
open Go.RowKit Go.Lib Go.Sort in
theorem Tryz.slices_Delete_f328 {α:Type} [Inhabited α] (enc:α->Value) (h1:OneCell enc) (zr:α) (v23: ∀w,(zeroValue 22).run Tryz.prog w= .ok (enc zr) w) (i0:TypeInfo) (hi0:Tryz.prog.info? 22=some i0) (hz1:i0.size=1) (blk off cap i j:Nat) (d:Array α) (w:World) (hH:Holds enc w blk off d) (hcap:d.size<=cap) (hm:cap<=9223372036854775807) (hij:i<=j) (hj:j<=d.size):
    Calls Tryz.prog 328 #[.slice (some ⟨blk,off,none⟩) d.size cap,.int .i64 i,.int .i64 j] w fun e w'=>e= .returned (.slice (some ⟨blk,off,none⟩) (d.size-(j-i)) cap)∧ ∃q,w'=putRow enc (Sort.ahead w q) blk off (d.toList.take i++d.toList.drop j++List.replicate (j-i) zr).toArray:=AnyE.slices_Delete Tryz.laysSlE45_f328 enc h1 zr v23 i0 hi0 hz1 blk off cap i j d w hH hcap hm hij hj
end Go.Proofs
