/- A part of the proof. -/
import Derived.Test.YtbkilakncnlebaaGreatDoorY34
set_option linter.constructorNameAsVariable false
set_option maxHeartbeats 16000000
set_option maxRecDepth 10000
open Bool renaming true→AD
namespace Go.Proofs.YtbkilakncnlebaaGreatDoor.X
open Go.RowKit Go.XB Go.XN
set_option maxRecDepth 100000
theorem F8l:(ad6.all λu=>enA 1 (1,1) u)=AD:=dK
theorem F8c:(ad6.all λu=>enA 1 (2,1) u)=AD:=dK
theorem F8f:(ad6.all λu=>enA 1 (3,1) u)=AD:=dK
theorem F8s:(ad6.all λu=>enA 1 (4,1) u)=AD:=dK
theorem F8n:(ad6.all λu=>enA 1 (1,2) u)=AD:=dK
theorem F8r:(ad6.all λu=>enA 1 (3,2) u)=AD:=dK
theorem F8g:(ad6.all λq=>enZ (B0j 0) q (1,1) (1,1))=AD:=dK
theorem F8e:(ad6.all λq=>ad6.all λu=>enZ (B0j 1) q u (1,1))=AD:=dK
theorem F7z:(ad6.all λq=>ad6.all λz=>enZ (B0j 2) q (1,1) z)=AD:=dK
theorem F8d:(ad6.all λu=>ad6.all λz=>enZ (C2p 0) (1,1) u z)=AD:=dK
theorem F8q:(ad6.all λu=>ad6.all λz=>enZ (C2p 0) (2,1) u z)=AD:=dK
theorem F8m:(ad6.all λu=>ad6.all λz=>enZ (C2p 0) (3,1) u z)=AD:=dK
theorem F8o:(ad6.all λu=>ad6.all λz=>enZ (C2p 0) (4,1) u z)=AD:=dK
theorem F8i:(ad6.all λu=>ad6.all λz=>enZ (C2p 0) (1,2) u z)=AD:=dK
theorem F7y:(ad6.all λu=>ad6.all λz=>enZ (C2p 0) (3,2) u z)=AD:=dK
end Go.Proofs.YtbkilakncnlebaaGreatDoor.X
