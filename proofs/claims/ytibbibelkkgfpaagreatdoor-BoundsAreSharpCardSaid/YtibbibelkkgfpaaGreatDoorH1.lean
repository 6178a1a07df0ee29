/- Part H1 of the proof that the last part closes: two layings of the library. No condition. -/
import Derived.Test.YtibbibelkkgfpaaGreatDoorChecked
import Derived.Shelf.SlicesE.Reverse
import Derived.Ground.SlgnProg
namespace Go.Proofs
open Go.Shelf
def Tryz.laysE35_ren:Go.Shelf.Ren:=⟨fun | 35=>143 | n=>n,fun | 22=>208 | 23=>5 | 3=>3 | 4=>4 | 0=>0 | n=>n,fun | n=>n⟩
theorem Tryz.laysE35:Go.Proofs.SlLaysE.n35 Tryz.prog Tryz.laysE35_ren:={
 mixed:=by kernel_rfl
 f35:=⟨Tryz.f143.name,by decide,Tryz.func143.trans (congrArg some (by kernel_rfl))⟩
 t0:=Tryz.underlying0
 a0:=Tryz.isAgg0
 z0:=Tryz.sizeOf0
 v0:=Tryz.zeroValue0
 t3:=Tryz.underlying3
 a3:=Tryz.isAgg3
 z3:=Tryz.sizeOf3
 v3:=Tryz.zeroValue3
 t4:=Tryz.underlying4
 a4:=Tryz.isAgg4
 z4:=Tryz.sizeOf4
 v4:=Tryz.zeroValue4
 t22:=Tryz.underlying208
 a22:=Tryz.isAgg208
 z22:=Tryz.sizeOf208
 v22:=Tryz.zeroValue208
 a23:=Tryz.isAgg5
 z23:=Tryz.sizeOf5 }
end Go.Proofs

