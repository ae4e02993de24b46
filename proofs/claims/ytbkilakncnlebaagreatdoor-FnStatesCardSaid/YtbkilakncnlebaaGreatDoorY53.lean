/- A part of the proof. -/
import Derived.Test.YtbkilakncnlebaaGreatDoorY34
set_option linter.constructorNameAsVariable false
set_option maxHeartbeats 16000000
set_option maxRecDepth 10000
open Bool renaming true→AD
namespace Go.Proofs.YtbkilakncnlebaaGreatDoor.X
open Go.RowKit Go.XB Go.XN
set_option maxRecDepth 100000
theorem F8h:(ad6.all λu=>enA 0 (1,1) u)=AD:=dK
theorem F7x:(ad6.all λu=>enA 0 (2,1) u)=AD:=dK
theorem F8b:(ad6.all λu=>enA 0 (3,1) u)=AD:=dK
theorem F8j:(ad6.all λu=>enA 0 (4,1) u)=AD:=dK
theorem F8p:(ad6.all λu=>enA 0 (1,2) u)=AD:=dK
theorem F8a:(ad6.all λu=>enA 0 (3,2) u)=AD:=dK
end Go.Proofs.YtbkilakncnlebaaGreatDoor.X
