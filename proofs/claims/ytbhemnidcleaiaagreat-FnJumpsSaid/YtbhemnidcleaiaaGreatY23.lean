/- A part of the proof. -/
import Derived.Test.YtbhemnidcleaiaaGreatY21
import Derived.Deep.RegionWith
set_option linter.constructorNameAsVariable false
set_option maxHeartbeats 16000000
set_option maxRecDepth 10000
namespace Go.Proofs.YtbhemnidcleaiaaGreat.X
open Go.RowKit Go.XB Go.XN
def ptD (x y:Int) (q:Int):TPoint:=⟨if q=0 then A1y x else A2d (A1y x) (mkR 1 q),A1y y⟩
def inD (x y q:Int):Prop:=(-4≤x∧x≤4)∧(-4≤y∧y≤4)∧(q=0∨(2≤q∧q≤4))
attribute [local go_sem] O_ opAt P_ M_ Region.wanted yielded
attribute [local simp] P_ M_ MP.eq MP.agg MP.sl A0e
def D6m (w:World) (g:Nat) (e:Ending) (w':World):Prop:=∃ (x y q:Int) (v:Value) (s:List Nat),e=.returned v∧inD x y q∧Agg w' v (ptD x y q) s∧w.grownBy w' (some g)∧∀ b∈s,w.heap.size≤b
theorem C4y {w w1 w2:World} {r:Option Nat} (h:w.grownBy w1 r) (h2:w1.grownBy w2 r):w.grownBy w2 r :=
 ⟨h2.os.trans h.os,h2.tape.trans h.tape,h2.output.trans h.output,Nat.le_trans h.size h2.size,fun k hk hne=>(h2.block k (Nat.lt_of_lt_of_le hk h.size) hne).trans (h.block k hk hne)⟩
theorem A7p {w w1 w2:World} {r:Option Nat} (h:w.grownBy w1 r) (h2:Below w1.heap.size w1 w2):w.grownBy w2 r:=C4y h (A1u h2 r)
end Go.Proofs.YtbhemnidcleaiaaGreat.X
