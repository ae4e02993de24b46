/- A part of the proof. -/
import Derived.Test.YtjcanieccnljfaaGreatY35
set_option linter.constructorNameAsVariable false
set_option maxHeartbeats 16000000
set_option maxRecDepth 10000
namespace Go.Proofs.YtjcanieccnljfaaGreat.X
open Go.RowKit Go.XB Go.XN
set_option maxRecDepth 100000
theorem F0c:(ad6.all λu=>A4b (1,2) (1,1) u)=true:=dK
theorem F1p:(ad6.all λu=>A4b (1,2) (2,1) u)=true:=dK
theorem F1s:(ad6.all λu=>A4b (1,2) (3,1) u)=true:=dK
theorem F0x:(ad6.all λu=>A4b (1,2) (4,1) u)=true:=dK
theorem F0y:(ad6.all λu=>A4b (1,2) (1,2) u)=true:=dK
theorem F1y:(ad6.all λu=>A4b (1,2) (3,2) u)=true:=dK
end Go.Proofs.YtjcanieccnljfaaGreat.X
