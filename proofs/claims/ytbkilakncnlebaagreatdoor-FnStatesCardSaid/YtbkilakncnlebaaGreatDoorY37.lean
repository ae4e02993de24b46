/- A part of the proof. -/
import Derived.Test.YtbkilakncnlebaaGreatDoorY34
set_option linter.constructorNameAsVariable false
set_option maxHeartbeats 16000000
set_option maxRecDepth 10000
open Bool renaming true→AD
namespace Go.Proofs.YtbkilakncnlebaaGreatDoor.X
open Go.RowKit Go.XB Go.XN
set_option maxRecDepth 100000
theorem F0d:(ad6.all λu=>A4b (4,1) (1,1) u)=AD:=dK
theorem F1r:(ad6.all λu=>A4b (4,1) (2,1) u)=AD:=dK
theorem F0i:(ad6.all λu=>A4b (4,1) (3,1) u)=AD:=dK
theorem F1b:(ad6.all λu=>A4b (4,1) (4,1) u)=AD:=dK
theorem F1c:(ad6.all λu=>A4b (4,1) (1,2) u)=AD:=dK
theorem F0h:(ad6.all λu=>A4b (4,1) (3,2) u)=AD:=dK
theorem F0c:(ad6.all λu=>A4b (1,2) (1,1) u)=AD:=dK
theorem F1p:(ad6.all λu=>A4b (1,2) (2,1) u)=AD:=dK
theorem F1s:(ad6.all λu=>A4b (1,2) (3,1) u)=AD:=dK
set_option maxRecDepth 100000
theorem F0x:(ad6.all λu=>A4b (1,2) (4,1) u)=AD:=dK
theorem F0y:(ad6.all λu=>A4b (1,2) (1,2) u)=AD:=dK
theorem F1y:(ad6.all λu=>A4b (1,2) (3,2) u)=AD:=dK
theorem F1o:(ad6.all λu=>A4b (3,2) (1,1) u)=AD:=dK
theorem F0j:(ad6.all λu=>A4b (3,2) (2,1) u)=AD:=dK
theorem F1i:(ad6.all λu=>A4b (3,2) (3,1) u)=AD:=dK
theorem F1u:(ad6.all λu=>A4b (3,2) (4,1) u)=AD:=dK
theorem F1k:(ad6.all λu=>A4b (3,2) (1,2) u)=AD:=dK
theorem F0v:(ad6.all λu=>A4b (3,2) (3,2) u)=AD:=dK
end Go.Proofs.YtbkilakncnlebaaGreatDoor.X
