/- A part of the proof. -/
import Derived.Test.YtjcanieccnljfaaGreatY35
set_option linter.constructorNameAsVariable false
set_option maxHeartbeats 16000000
set_option maxRecDepth 10000
namespace Go.Proofs.YtjcanieccnljfaaGreat.X
open Go.RowKit Go.XB Go.XN
set_option maxRecDepth 100000
theorem F0l:(ad6.all λu=>A4b (3,1) (1,1) u)=true:=dK
theorem F0z:(ad6.all λu=>A4b (3,1) (2,1) u)=true:=dK
theorem E9y:(ad6.all λu=>A4b (3,1) (3,1) u)=true:=dK
theorem F0u:(ad6.all λu=>A4b (3,1) (4,1) u)=true:=dK
theorem F1m:(ad6.all λu=>A4b (3,1) (1,2) u)=true:=dK
theorem F0o:(ad6.all λu=>A4b (3,1) (3,2) u)=true:=dK
end Go.Proofs.YtjcanieccnljfaaGreat.X
