/- A part of the proof. -/
import Derived.Ground.NamesProg
import Derived.Ground.Names2Prog
import Derived.Shelf.Bits.Mul64
import Derived.Shelf.Slices.SearchI
import Derived.Test.YtbkilakncnlebaaGreatDoorY2
set_option linter.constructorNameAsVariable false
set_option maxHeartbeats 16000000
set_option maxRecDepth 10000
namespace Go.Proofs.YtbkilakncnlebaaGreatDoor.X
open Go.Shelf Go.Proofs Proofs.Tryz
def D5c:Go.Shelf.Ren:=⟨fun|212=>186|263=>239|264=>240|n=>n,fun|46=>221|51=>283|146=>284|53=>100|148=>286|n=>n,fun|n=>n⟩
theorem E7k:Go.Proofs.Lays.n212 prog D5c:={
 mixed:=by kernel_rfl
 f212:=func186.trans (congrArg some (by kernel_rfl))
 f263:=func239.trans (congrArg some (by kernel_rfl))
 f264:=func240.trans (congrArg some (by kernel_rfl))
 t46:=underlying221
 a46:=Tryz.isAgg221
 z46:=Tryz.sizeOf221
 v46:=Tryz.zeroValue221
 t51:=underlying283
 a51:=Tryz.isAgg283
 z51:=Tryz.sizeOf283
 v51:=Tryz.zeroValue283
 t53:=underlying100
 a53:=Tryz.isAgg100
 z53:=Tryz.sizeOf100
 v53:=Tryz.zeroValue100
 t146:=underlying284
 a146:=Tryz.isAgg284
 z146:=Tryz.sizeOf284
 v146:=Tryz.zeroValue284
 t148:=underlying286
 a148:=Tryz.isAgg286
 z148:=Tryz.sizeOf286
 v148:=Tryz.zeroValue286 }
def D5m:Go.Shelf.Ren:=⟨fun|25=>304|31=>310|32=>311|37=>257|n=>n,fun|22=>31|3=>3|4=>4|40=>221|0=>0|n=>n,fun|n=>n⟩
theorem E5q:Go.Proofs.Lays2.n25 prog D5m:={
 mixed:=by kernel_rfl
 f25:=func304.trans (congrArg some (by kernel_rfl))
 f31:=func310.trans (congrArg some (by kernel_rfl))
 f32:=func311.trans (congrArg some (by kernel_rfl))
 f37:=func257.trans (congrArg some (by kernel_rfl))
 t0:=underlying0
 a0:=Tryz.isAgg0
 z0:=Tryz.sizeOf0
 v0:=Tryz.zeroValue0
 t3:=underlying3
 a3:=Tryz.isAgg3
 z3:=Tryz.sizeOf3
 v3:=Tryz.zeroValue3
 t4:=underlying4
 a4:=Tryz.isAgg4
 z4:=Tryz.sizeOf4
 v4:=Tryz.zeroValue4
 t22:=underlying31
 a22:=Tryz.isAgg31
 z22:=Tryz.sizeOf31
 v22:=Tryz.zeroValue31
 t40:=underlying221
 a40:=Tryz.isAgg221
 z40:=Tryz.sizeOf221
 v40:=Tryz.zeroValue221 }
theorem B9f (y:Nat) (u:y<=40) (w:World):Calls prog 186 #[.int .u64 1,.int .u64 y] w λe w'=>e=.returned (.tuple #[.int .u64 0,.int .u64 y])/\w'=w:=by
 refine(Any.bits_Mul E7k 1 y oS oS w).mono ?_;rintro e w' ⟨rfl,rfl⟩;have b:(1*y / 18446744073709551616:Nat)=0:=oS;have h:(1*y % 18446744073709551616:Nat)=y:=oS;rw[b,h];exact⟨rfl,rfl⟩
theorem E7f (b off n c:Nat) (zs:List Int) (x:Int) (w:World) (hz:n<=zs.length) (hbig:n<4611686018427387904) (hc:∀ j,j<zs.length->w.cell? ⟨b,off+j,none⟩=some (.int .i64 (zs.getD j 0))) (hs:(zs.take n).Pairwise (·<=·)) :
  Calls prog 304 #[.slice (some ⟨b,off,none⟩) n c,.int .i64 x] w λe w'=>e=.returned (.tuple #[.int .i64 ((zs.take n).countP (·<x):Nat),.bool ((zs.take n).contains x)])/\∃ q,w'=w.drewN q :=
 Any.slices_BinarySearch_int E5q b off n c zs x w hz hbig hc hs
end Go.Proofs.YtbkilakncnlebaaGreatDoor.X
