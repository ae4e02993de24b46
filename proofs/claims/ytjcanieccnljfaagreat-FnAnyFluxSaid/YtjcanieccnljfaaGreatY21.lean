/- A part of the proof. -/
import Derived.Ground.NamesProg
import Derived.Ground.Names2Prog
import Derived.Shelf.Bits.Mul64
import Derived.Shelf.Slices.SearchI
import Derived.Test.YtjcanieccnljfaaGreatY2
set_option linter.constructorNameAsVariable false
set_option maxHeartbeats 16000000
set_option maxRecDepth 10000
namespace Go.Proofs.YtjcanieccnljfaaGreat.X
open Go.Shelf Go.Proofs Proofs.Tryz
def D5c:Go.Shelf.Ren:=⟨fun|212=>128|263=>182|264=>183|n=>n,fun|46=>163|51=>206|146=>207|53=>185|148=>209|n=>n,fun|n=>n⟩
theorem E7k:Go.Proofs.Lays.n212 prog D5c:={
 mixed:=by kernel_rfl
 f212:=func128.trans (congrArg some (by kernel_rfl))
 f263:=func182.trans (congrArg some (by kernel_rfl))
 f264:=func183.trans (congrArg some (by kernel_rfl))
 t46:=underlying163
 a46:=Tryz.isAgg163
 z46:=Tryz.sizeOf163
 v46:=Tryz.zeroValue163
 t51:=underlying206
 a51:=Tryz.isAgg206
 z51:=Tryz.sizeOf206
 v51:=Tryz.zeroValue206
 t53:=underlying185
 a53:=Tryz.isAgg185
 z53:=Tryz.sizeOf185
 v53:=Tryz.zeroValue185
 t146:=underlying207
 a146:=Tryz.isAgg207
 z146:=Tryz.sizeOf207
 v146:=Tryz.zeroValue207
 t148:=underlying209
 a148:=Tryz.isAgg209
 z148:=Tryz.sizeOf209
 v148:=Tryz.zeroValue209 }
def D5m:Go.Shelf.Ren:=⟨fun|25=>215|31=>237|32=>238|37=>193|n=>n,fun|22=>35|3=>3|4=>4|40=>163|0=>0|n=>n,fun|n=>n⟩
theorem E5q:Go.Proofs.Lays2.n25 prog D5m:={
 mixed:=by kernel_rfl
 f25:=func215.trans (congrArg some (by kernel_rfl))
 f31:=func237.trans (congrArg some (by kernel_rfl))
 f32:=func238.trans (congrArg some (by kernel_rfl))
 f37:=func193.trans (congrArg some (by kernel_rfl))
 t0:=underlying0
 a0:=Tryz.isAgg0
 z0:=Tryz.sizeOf0
 v0:=Tryz.zeroValue0
 t3:=underlying3
 a3:=Tryz.isAgg3
 z3:=Tryz.sizeOf3
 v3:=Tryz.zeroValue3
 t4:=underlying4
 a4:=Tryz.isAgg4
 z4:=Tryz.sizeOf4
 v4:=Tryz.zeroValue4
 t22:=underlying35
 a22:=Tryz.isAgg35
 z22:=Tryz.sizeOf35
 v22:=Tryz.zeroValue35
 t40:=underlying163
 a40:=Tryz.isAgg163
 z40:=Tryz.sizeOf163
 v40:=Tryz.zeroValue163 }
theorem B9f (y:Nat) (u:y<=40) (w:World):Calls prog 128 #[.int .u64 1,.int .u64 y] w λe w'=>e=.returned (.tuple #[.int .u64 0,.int .u64 y])/\w'=w:=by
 refine(Any.bits_Mul E7k 1 y oS oS w).mono ?_;rintro e w' ⟨rfl,rfl⟩;have b:(1*y / 18446744073709551616:Nat)=0:=oS;have h:(1*y % 18446744073709551616:Nat)=y:=oS;rw[b,h];exact⟨rfl,rfl⟩
theorem E7f (b off n c:Nat) (zs:List Int) (x:Int) (w:World) (hz:n<=zs.length) (hbig:n<4611686018427387904) (hc:∀ j,j<zs.length->w.cell? ⟨b,off+j,none⟩=some (.int .i64 (zs.getD j 0))) (hs:(zs.take n).Pairwise (·<=·)) :
  Calls prog 215 #[.slice (some ⟨b,off,none⟩) n c,.int .i64 x] w λe w'=>e=.returned (.tuple #[.int .i64 ((zs.take n).countP (·<x):Nat),.bool ((zs.take n).contains x)])/\∃ q,w'=w.drewN q :=
 Any.slices_BinarySearch_int E5q b off n c zs x w hz hbig hc hs
end Go.Proofs.YtjcanieccnljfaaGreat.X
