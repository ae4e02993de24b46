/- A part of the proof. -/
import Derived.Test.YtbhemnidcleaiaaGreatY47
import Derived.Test.YtbhemnidcleaiaaGreatY39
set_option linter.constructorNameAsVariable false
set_option maxHeartbeats 16000000
set_option maxRecDepth 10000
namespace Go.Proofs.YtbhemnidcleaiaaGreat.X
open Go.RowKit Go.XB Go.XN
attribute [local go_sem] L_ opAt N_ M_ Region.wanted yielded
attribute [local simp] N_ M_ MP.eq MP.agg MP.sl A0r

end Go.Proofs.YtbhemnidcleaiaaGreat.X
