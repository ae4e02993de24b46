/- A part of the proof. -/
import Derived.Ground.NamesProg
import Derived.Ground.Names2Prog
import Derived.Shelf.Bits.Mul64
import Derived.Shelf.Slices.SearchI
import Derived.Test.YtbhemnidcleaiaaGreatY2
set_option linter.constructorNameAsVariable false
set_option maxHeartbeats 16000000
set_option maxRecDepth 10000
namespace Go.Proofs.YtbhemnidcleaiaaGreat.X
open Go.Shelf Go.Proofs Proofs.Tryz
def D5c:Go.Shelf.Ren:=⟨fun|212=>209|263=>260|264=>261|n=>n,fun|46=>156|51=>227|146=>254|53=>151|148=>256|n=>n,fun|n=>n⟩
theorem E7k:Go.Proofs.Lays.n212 prog D5c:={
 mixed:=by kernel_rfl
 f212:=func209.trans (congrArg some (by kernel_rfl))
 f263:=func260.trans (congrArg some (by kernel_rfl))
 f264:=func261.trans (congrArg some (by kernel_rfl))
 t46:=underlying156
 a46:=Tryz.isAgg156
 z46:=Tryz.sizeOf156
 v46:=Tryz.zeroValue156
 t51:=underlying227
 a51:=Tryz.isAgg227
 z51:=Tryz.sizeOf227
 v51:=Tryz.zeroValue227
 t53:=underlying151
 a53:=Tryz.isAgg151
 z53:=Tryz.sizeOf151
 v53:=Tryz.zeroValue151
 t146:=underlying254
 a146:=Tryz.isAgg254
 z146:=Tryz.sizeOf254
 v146:=Tryz.zeroValue254
 t148:=underlying256
 a148:=Tryz.isAgg256
 z148:=Tryz.sizeOf256
 v148:=Tryz.zeroValue256 }
def D5m:Go.Shelf.Ren:=⟨fun|25=>308|31=>224|32=>315|37=>192|n=>n,fun|22=>31|3=>3|4=>4|40=>156|0=>0|n=>n,fun|n=>n⟩
theorem E5q:Go.Proofs.Lays2.n25 prog D5m:={
 mixed:=by kernel_rfl
 f25:=func308.trans (congrArg some (by kernel_rfl))
 f31:=func224.trans (congrArg some (by kernel_rfl))
 f32:=func315.trans (congrArg some (by kernel_rfl))
 f37:=func192.trans (congrArg some (by kernel_rfl))
 t0:=underlying0
 a0:=Tryz.isAgg0
 z0:=Tryz.sizeOf0
 v0:=Tryz.zeroValue0
 t3:=underlying3
 a3:=Tryz.isAgg3
 z3:=Tryz.sizeOf3
 v3:=Tryz.zeroValue3
 t4:=underlying4
 a4:=Tryz.isAgg4
 z4:=Tryz.sizeOf4
 v4:=Tryz.zeroValue4
 t22:=underlying31
 a22:=Tryz.isAgg31
 z22:=Tryz.sizeOf31
 v22:=Tryz.zeroValue31
 t40:=underlying156
 a40:=Tryz.isAgg156
 z40:=Tryz.sizeOf156
 v40:=Tryz.zeroValue156 }
theorem B9f (y:Nat) (u:y<=40) (w:World):Calls prog 209 #[.int .u64 1,.int .u64 y] w λe w'=>e=.returned (.tuple #[.int .u64 0,.int .u64 y])/\w'=w:=by
 refine(Any.bits_Mul E7k 1 y oM oM w).mono ?_;rintro e w' ⟨rfl,rfl⟩;have b:(1*y / 18446744073709551616:Nat)=0:=oM;have h:(1*y % 18446744073709551616:Nat)=y:=oM;rw[b,h];exact⟨rfl,rfl⟩
theorem E7f (b off n c:Nat) (zs:List Int) (x:Int) (w:World) (hz:n<=zs.length) (hbig:n<4611686018427387904) (hc:∀ j,j<zs.length->w.cell? ⟨b,off+j,none⟩=some (.int .i64 (zs.getD j 0))) (hs:(zs.take n).Pairwise (·<=·)) :
  Calls prog 308 #[.slice (some ⟨b,off,none⟩) n c,.int .i64 x] w λe w'=>e=.returned (.tuple #[.int .i64 ((zs.take n).countP (·<x):Nat),.bool ((zs.take n).contains x)])/\∃ q,w'=w.drewN q :=
 Any.slices_BinarySearch_int E5q b off n c zs x w hz hbig hc hs
end Go.Proofs.YtbhemnidcleaiaaGreat.X
