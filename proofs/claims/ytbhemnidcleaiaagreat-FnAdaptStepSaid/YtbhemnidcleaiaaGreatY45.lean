/- A part of the proof. -/
import Derived.Test.YtbhemnidcleaiaaGreatY2
import Derived.Ground.NamesProg
import Derived.Shelf.Sort.Plain
import Derived.Sort.OwnSortedInts
set_option linter.constructorNameAsVariable false
set_option maxHeartbeats 16000000
set_option maxRecDepth 10000
namespace Go.Proofs.YtbhemnidcleaiaaGreat.X
open Go.Shelf Go.Proofs Proofs.Tryz
section
def D3l:Go.Shelf.Ren:=⟨fun|189=>112|125=>169|257=>168|128=>227|129=>228|294=>218|295=>219|296=>220|297=>221|298=>222|299=>223|216=>224|300=>225|301=>226|328=>271|329=>272|330=>273|331=>274|332=>275|215=>192|343=>300|n=>n,fun|28=>31|3=>3|46=>156|0=>0|51=>227|53=>151|4=>4|183=>220|182=>219|131=>113|5=>5|9=>9|218=>268|222=>272|228=>284|229=>104|n=>n,fun|n=>n⟩
theorem E5t:Go.Proofs.Lays.n189 prog D3l:={
 mixed:=by kernel_rfl
 f125:=func169.trans (congrArg some (by kernel_rfl))
 f128:=func227.trans (congrArg some (by kernel_rfl))
 f129:=func228.trans (congrArg some (by kernel_rfl))
 f189:=func112.trans (congrArg some (by kernel_rfl))
 f215:=func192.trans (congrArg some (by kernel_rfl))
 f216:=func224.trans (congrArg some (by kernel_rfl))
 f257:=func168.trans (congrArg some (by kernel_rfl))
 f294:=func218.trans (congrArg some (by kernel_rfl))
 f295:=func219.trans (congrArg some (by kernel_rfl))
 f296:=func220.trans (congrArg some (by kernel_rfl))
 f297:=func221.trans (congrArg some (by kernel_rfl))
 f298:=func222.trans (congrArg some (by kernel_rfl))
 f299:=func223.trans (congrArg some (by kernel_rfl))
 f300:=func225.trans (congrArg some (by kernel_rfl))
 f301:=func226.trans (congrArg some (by kernel_rfl))
 f328:=func271.trans (congrArg some (by kernel_rfl))
 f329:=func272.trans (congrArg some (by kernel_rfl))
 f330:=func273.trans (congrArg some (by kernel_rfl))
 f331:=func274.trans (congrArg some (by kernel_rfl))
 f332:=func275.trans (congrArg some (by kernel_rfl))
 f343:=func300.trans (congrArg some (by kernel_rfl))
 t0:=underlying0
 a0:=Tryz.isAgg0
 z0:=Tryz.sizeOf0
 v0:=Tryz.zeroValue0
 t3:=underlying3
 a3:=Tryz.isAgg3
 z3:=Tryz.sizeOf3
 v3:=Tryz.zeroValue3
 t4:=underlying4
 a4:=Tryz.isAgg4
 z4:=Tryz.sizeOf4
 v4:=Tryz.zeroValue4
 t5:=underlying5
 a5:=Tryz.isAgg5
 z5:=Tryz.sizeOf5
 v5:=Tryz.zeroValue5
 t9:=underlying9
 a9:=Tryz.isAgg9
 z9:=Tryz.sizeOf9
 v9:=Tryz.zeroValue9
 t28:=underlying31
 a28:=Tryz.isAgg31
 z28:=Tryz.sizeOf31
 v28:=Tryz.zeroValue31
 t46:=underlying156
 a46:=Tryz.isAgg156
 z46:=Tryz.sizeOf156
 v46:=Tryz.zeroValue156
 t51:=underlying227
 a51:=Tryz.isAgg227
 z51:=Tryz.sizeOf227
 v51:=Tryz.zeroValue227
 t53:=underlying151
 a53:=Tryz.isAgg151
 z53:=Tryz.sizeOf151
 v53:=Tryz.zeroValue151
 t131:=underlying113
 a131:=Tryz.isAgg113
 z131:=Tryz.sizeOf113
 v131:=Tryz.zeroValue113
 t182:=underlying219
 a182:=Tryz.isAgg219
 z182:=Tryz.sizeOf219
 v182:=Tryz.zeroValue219
 t183:=underlying220
 a183:=Tryz.isAgg220
 z183:=Tryz.sizeOf220
 v183:=Tryz.zeroValue220
 t218:=underlying268
 a218:=Tryz.isAgg268
 z218:=Tryz.sizeOf268
 v218:=Tryz.zeroValue268
 t222:=underlying272
 a222:=Tryz.isAgg272
 z222:=Tryz.sizeOf272
 v222:=Tryz.zeroValue272
 t228:=underlying284
 a228:=Tryz.isAgg284
 z228:=Tryz.sizeOf284
 v228:=Tryz.zeroValue284
 t229:=underlying104
 a229:=Tryz.isAgg104
 z229:=Tryz.sizeOf104
 v229:=Tryz.zeroValue104 }
open Go.RowKit Go.Shelf Go.Sort Go.XB
theorem C8h (base g n cap:Nat) (us:List Int) (w:World) (h:w.ownsRow base 3 1 (.slice (some ⟨g,0,none⟩) n cap) n (us.map (.int .i64))) (W:n<=1048576) :
  Calls prog 112 #[.slice (some ⟨g,0,none⟩) n cap] w λe w'=>e=.returned (.tuple #[])/\w'.ownsRow base 3 1 (.slice (some ⟨g,0,none⟩) n cap) n ((us.mergeSort λx y=>decide (x<=y)).map (.int .i64))/\w.grownBy w' (some g):=by
 obtain rfl:us.length=n:=by have:=h.1;simpa using this
 rcases h.2 with⟨u,_⟩|⟨g',S,T,O,D,b,I,E,J,K⟩;·cases u
 cases O;have H:g<w.1.size:=(Array.getElem?_eq_some_iff.1 b).1;refine(Any.slices_Sort_int E5t g 0 cap us w (holds_of_blockI b (by simpa using K)) H oM).mono ?_;rintro e w' ⟨G,q,X,rfl⟩;exact⟨G,ownsRow_sortedI (by rw[List.length_mergeSort]) D b I E J,grownBy_sortedI _⟩
end
end Go.Proofs.YtbhemnidcleaiaaGreat.X
