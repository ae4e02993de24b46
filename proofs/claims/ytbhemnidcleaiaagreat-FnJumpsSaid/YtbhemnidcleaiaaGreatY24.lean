/- A part of the proof. -/
import Derived.Test.YtbhemnidcleaiaaGreatY23
import Derived.Test.YtbhemnidcleaiaaGreatY22
set_option linter.constructorNameAsVariable false
set_option maxHeartbeats 16000000
set_option maxRecDepth 10000
namespace Go.Proofs.YtbhemnidcleaiaaGreat.X
open Go.RowKit Go.XB Go.XN
attribute [local go_sem] O_ opAt P_ M_ Region.wanted yielded
attribute [local simp] P_ M_ MP.eq MP.agg MP.sl A0e
end Go.Proofs.YtbhemnidcleaiaaGreat.X
