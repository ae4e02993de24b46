/- A part of the proof. -/
import Derived.Test.YtbkilakncnlebaaGreatDoorY34
set_option linter.constructorNameAsVariable false
set_option maxHeartbeats 16000000
set_option maxRecDepth 10000
open Bool renaming true→AD
namespace Go.Proofs.YtbkilakncnlebaaGreatDoor.X
open Go.RowKit Go.XB Go.XN
set_option maxRecDepth 100000
theorem F2k:(ad6.all λu=>B5d 0 (1,1) u)=AD:=dK
theorem F1x:(ad6.all λu=>B5d 0 (2,1) u)=AD:=dK
theorem F1n:(ad6.all λu=>B5d 0 (3,1) u)=AD:=dK
theorem F0p:(ad6.all λu=>B5d 0 (4,1) u)=AD:=dK
theorem F1v:(ad6.all λu=>B5d 0 (1,2) u)=AD:=dK
theorem F2e:(ad6.all λu=>B5d 0 (3,2) u)=AD:=dK
theorem F2c:(ad6.all λu=>B5d 1 (1,1) u)=AD:=dK
theorem F2b:(ad6.all λu=>B5d 1 (2,1) u)=AD:=dK
theorem F1j:(ad6.all λu=>B5d 1 (3,1) u)=AD:=dK
theorem F0e:(ad6.all λu=>B5d 1 (4,1) u)=AD:=dK
theorem F1q:(ad6.all λu=>B5d 1 (1,2) u)=AD:=dK
theorem F0m:(ad6.all λu=>B5d 1 (3,2) u)=AD:=dK
theorem rc0:(ad6.all λu=>E9m u)=AD:=dK
theorem F1a:(ad6.all λu=>C1u (1,1) u)=AD:=dK
theorem F2f:(ad6.all λu=>C1u (2,1) u)=AD:=dK
theorem F0a:(ad6.all λu=>C1u (3,1) u)=AD:=dK
theorem F1g:(ad6.all λu=>C1u (4,1) u)=AD:=dK
theorem F0b:(ad6.all λu=>C1u (1,2) u)=AD:=dK
theorem F1t:(ad6.all λu=>C1u (3,2) u)=AD:=dK
theorem F0f:(ad6.all λu=>C2k (1,1) u)=AD:=dK
theorem F2a:(ad6.all λu=>C2k (2,1) u)=AD:=dK
theorem F0g:(ad6.all λu=>C2k (3,1) u)=AD:=dK
theorem F2i:(ad6.all λu=>C2k (4,1) u)=AD:=dK
theorem F1z:(ad6.all λu=>C2k (1,2) u)=AD:=dK
theorem F0q:(ad6.all λu=>C2k (3,2) u)=AD:=dK
end Go.Proofs.YtbkilakncnlebaaGreatDoor.X
