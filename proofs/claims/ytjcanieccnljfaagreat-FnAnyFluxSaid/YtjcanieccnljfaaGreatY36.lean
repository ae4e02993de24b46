/- A part of the proof. -/
import Derived.Test.YtjcanieccnljfaaGreatY35
set_option linter.constructorNameAsVariable false
set_option maxHeartbeats 16000000
set_option maxRecDepth 10000
namespace Go.Proofs.YtjcanieccnljfaaGreat.X
open Go.RowKit Go.XB Go.XN
set_option maxRecDepth 100000
theorem F2k:(ad6.all λu=>B5d 0 (1,1) u)=true:=dK
theorem F1x:(ad6.all λu=>B5d 0 (2,1) u)=true:=dK
theorem F1n:(ad6.all λu=>B5d 0 (3,1) u)=true:=dK
theorem F0p:(ad6.all λu=>B5d 0 (4,1) u)=true:=dK
theorem F1v:(ad6.all λu=>B5d 0 (1,2) u)=true:=dK
theorem F2e:(ad6.all λu=>B5d 0 (3,2) u)=true:=dK
end Go.Proofs.YtjcanieccnljfaaGreat.X
