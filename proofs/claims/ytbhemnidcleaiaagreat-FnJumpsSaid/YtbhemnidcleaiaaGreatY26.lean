/- A part of the proof. -/
import Derived.Test.YtbhemnidcleaiaaGreatY25
import Derived.Test.YtbhemnidcleaiaaGreatY15
import Derived.Deep.RegionHeld3
set_option linter.constructorNameAsVariable false
set_option maxHeartbeats 16000000
set_option maxRecDepth 10000
namespace Go.Proofs.YtbhemnidcleaiaaGreat.X
open Go.RowKit Go.XB Go.XN
attribute [local go_sem] O_ opAt P_ M_ Region.wanted yielded
attribute [local simp] P_ M_ MP.eq MP.agg MP.sl MP.slbox A0e
def D7g (w wr:World) (g n K:Nat) (E:TypeId) (xs:List Value) (k:Nat):Prop :=
 ∃ cur:Array Value,wr.heap[g]?=some (.cells cur E (0,0))∧cur.size=n*K∧cur.toList.take (k*K)=(List.replicate k xs).flatten∧k≤n∧(0<n→0<k)∧Below w.heap.size w wr∧w.heap.size≤g
end Go.Proofs.YtbhemnidcleaiaaGreat.X
