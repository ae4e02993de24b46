/- Part of a claim's proof: texts of this repository's wip,joined by prune.py,without the theorems that the claim does not reach. -/
import Derived.Ground.NamesProg
import Derived.Ground.Names2Prog
import Derived.Shelf.Bits.Mul64
import Derived.Shelf.Slices.SearchI
import Derived.Test.YtpfipnankjeokaaGreatY2
set_option linter.constructorNameAsVariable false
namespace Go.Proofs.YtpfipnankjeokaaGreat.X
open Go.Shelf Go.Proofs
def lays212_ren : Go.Shelf.Ren := ⟨fun | 212 => 180 | 263 => 200 | 264 => 201 | n => n,fun | 46 => 151 | 51 => 195 | 146 => 196 | 53 => 133 | 148 => 198 | n => n,fun | n => n⟩
theorem lays212 : Go.Proofs.Lays.n212 Tryz.prog lays212_ren := {
 mixed := by kernel_rfl
 f212 := Tryz.func180.trans (congrArg some (by kernel_rfl))
 f263 := Tryz.func200.trans (congrArg some (by kernel_rfl))
 f264 := Tryz.func201.trans (congrArg some (by kernel_rfl))
 t46 := Tryz.underlying151
 a46 := Tryz.isAgg151
 z46 := Tryz.sizeOf151
 v46 := Tryz.zeroValue151
 t51 := Tryz.underlying195
 a51 := Tryz.isAgg195
 z51 := Tryz.sizeOf195
 v51 := Tryz.zeroValue195
 t53 := Tryz.underlying133
 a53 := Tryz.isAgg133
 z53 := Tryz.sizeOf133
 v53 := Tryz.zeroValue133
 t146 := Tryz.underlying196
 a146 := Tryz.isAgg196
 z146 := Tryz.sizeOf196
 v146 := Tryz.zeroValue196
 t148 := Tryz.underlying198
 a148 := Tryz.isAgg198
 z148 := Tryz.sizeOf198
 v148 := Tryz.zeroValue198 }
def laysB25_ren : Go.Shelf.Ren := ⟨fun | 25 => 182 | 31 => 202 | 32 => 203 | 37 => 172 | n => n,fun | 22 => 28 | 3 => 3 | 4 => 4 | 40 => 151 | 0 => 0 | n => n,fun | n => n⟩
theorem laysB25 : Go.Proofs.Lays2.n25 Tryz.prog laysB25_ren := {
 mixed := by kernel_rfl
 f25 := Tryz.func182.trans (congrArg some (by kernel_rfl))
 f31 := Tryz.func202.trans (congrArg some (by kernel_rfl))
 f32 := Tryz.func203.trans (congrArg some (by kernel_rfl))
 f37 := Tryz.func172.trans (congrArg some (by kernel_rfl))
 t0 := Tryz.underlying0
 a0 := Tryz.isAgg0
 z0 := Tryz.sizeOf0
 v0 := Tryz.zeroValue0
 t3 := Tryz.underlying3
 a3 := Tryz.isAgg3
 z3 := Tryz.sizeOf3
 v3 := Tryz.zeroValue3
 t4 := Tryz.underlying4
 a4 := Tryz.isAgg4
 z4 := Tryz.sizeOf4
 v4 := Tryz.zeroValue4
 t22 := Tryz.underlying28
 a22 := Tryz.isAgg28
 z22 := Tryz.sizeOf28
 v22 := Tryz.zeroValue28
 t40 := Tryz.underlying151
 a40 := Tryz.isAgg151
 z40 := Tryz.sizeOf151
 v40 := Tryz.zeroValue151 }
theorem bits_Mul_one (y : Nat) (hy : y ≤ 40) (w : World) : Calls Tryz.prog 180 #[.int .u64 1, .int .u64 y] w fun e w' => e = .returned (.tuple #[.int .u64 0, .int .u64 y]) ∧ w' = w := by
 refine (Any.bits_Mul lays212 1 y (by omega) (by omega) w).mono ?_
 rintro e w' ⟨rfl,rfl⟩
 have h1 : (1 * y / 18446744073709551616 : Nat) = 0 := by omega
 have h2 : (1 * y % 18446744073709551616 : Nat) = y := by omega
 rw [h1,h2]
 exact ⟨rfl,rfl⟩
theorem bs_ints (b off n c : Nat) (zs : List Int) (x : Int) (w : World) (hz : n ≤ zs.length) (hbig : n < 4611686018427387904) (hc : ∀ j,j < zs.length → w.cell? ⟨b,off + j,none⟩ = some (.int .i64 (zs.getD j 0))) (hs : (zs.take n).Pairwise (· ≤ ·)) :
  Calls Tryz.prog 182 #[.slice (some ⟨b,off,none⟩) n c, .int .i64 x] w fun e w' => e = .returned (.tuple #[.int .i64 ((zs.take n).countP (· < x) : Nat), .bool ((zs.take n).contains x)]) ∧ ∃ q,w' = w.drewN q :=
 Any.slices_BinarySearch_int laysB25 b off n c zs x w hz hbig hc hs
end Go.Proofs.YtpfipnankjeokaaGreat.X
