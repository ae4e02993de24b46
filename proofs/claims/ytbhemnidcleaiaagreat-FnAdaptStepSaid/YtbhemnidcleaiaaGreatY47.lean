/- A part of the proof. -/
import Derived.Test.YtbhemnidcleaiaaGreatY38
import Derived.Deep.RegionWith
set_option linter.constructorNameAsVariable false
set_option maxHeartbeats 16000000
set_option maxRecDepth 10000
namespace Go.Proofs.YtbhemnidcleaiaaGreat.X
open Go.RowKit Go.XB Go.XN
attribute [local go_sem] L_ opAt N_ M_ Region.wanted yielded
attribute [local simp] N_ M_ MP.eq MP.agg MP.sl A0r
theorem D8s {w w1 w2:World} {r:Option Nat} (h:w.grownBy w1 r) (h2:w1.grownBy w2 r):w.grownBy w2 r :=
 ⟨h2.os.trans h.os,h2.tape.trans h.tape,h2.output.trans h.output,Nat.le_trans h.size h2.size,λk hk hne=>(h2.block k (Nat.lt_of_lt_of_le hk h.size) hne).trans (h.block k hk hne)⟩
theorem A9x {w w1 w2:World} {r:Option Nat} (h:w.grownBy w1 r) (h2:Bw w1 w2):w.grownBy w2 r:=D8s h (A6m h2 r)
end Go.Proofs.YtbhemnidcleaiaaGreat.X
