/- A part of the proof. -/
import Derived.Test.YtbkilakncnlebaaGreatDoorY34
set_option linter.constructorNameAsVariable false
set_option maxHeartbeats 16000000
set_option maxRecDepth 10000
open Bool renaming true→AD
namespace Go.Proofs.YtbkilakncnlebaaGreatDoor.X
open Go.RowKit Go.XB Go.XN
set_option maxRecDepth 100000
theorem F2j:(ad6.all λu=>A4b (1,1) (1,1) u)=AD:=dK
theorem F1h:(ad6.all λu=>A4b (1,1) (2,1) u)=AD:=dK
theorem F1d:(ad6.all λu=>A4b (1,1) (3,1) u)=AD:=dK
theorem F0n:(ad6.all λu=>A4b (1,1) (4,1) u)=AD:=dK
theorem F1l:(ad6.all λu=>A4b (1,1) (1,2) u)=AD:=dK
theorem F2g:(ad6.all λu=>A4b (1,1) (3,2) u)=AD:=dK
theorem F1f:(ad6.all λu=>A4b (2,1) (1,1) u)=AD:=dK
theorem F0r:(ad6.all λu=>A4b (2,1) (2,1) u)=AD:=dK
theorem F0t:(ad6.all λu=>A4b (2,1) (3,1) u)=AD:=dK
set_option maxRecDepth 100000
theorem F2h:(ad6.all λu=>A4b (2,1) (4,1) u)=AD:=dK
theorem E9z:(ad6.all λu=>A4b (2,1) (1,2) u)=AD:=dK
theorem F0s:(ad6.all λu=>A4b (2,1) (3,2) u)=AD:=dK
theorem F0l:(ad6.all λu=>A4b (3,1) (1,1) u)=AD:=dK
theorem F0z:(ad6.all λu=>A4b (3,1) (2,1) u)=AD:=dK
theorem E9y:(ad6.all λu=>A4b (3,1) (3,1) u)=AD:=dK
theorem F0u:(ad6.all λu=>A4b (3,1) (4,1) u)=AD:=dK
theorem F1m:(ad6.all λu=>A4b (3,1) (1,2) u)=AD:=dK
theorem F0o:(ad6.all λu=>A4b (3,1) (3,2) u)=AD:=dK
end Go.Proofs.YtbkilakncnlebaaGreatDoor.X
