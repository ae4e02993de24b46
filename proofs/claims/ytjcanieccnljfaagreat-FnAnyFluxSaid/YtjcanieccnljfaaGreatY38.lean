/- A part of the proof. -/
import Derived.Test.YtjcanieccnljfaaGreatY35
set_option linter.constructorNameAsVariable false
set_option maxHeartbeats 16000000
set_option maxRecDepth 10000
namespace Go.Proofs.YtjcanieccnljfaaGreat.X
open Go.RowKit Go.XB Go.XN
set_option maxRecDepth 100000
theorem rc0:(ad6.all λu=>E9m u)=true:=dK
theorem F1a:(ad6.all λu=>C1u (1,1) u)=true:=dK
theorem F2f:(ad6.all λu=>C1u (2,1) u)=true:=dK
theorem F0a:(ad6.all λu=>C1u (3,1) u)=true:=dK
theorem F1g:(ad6.all λu=>C1u (4,1) u)=true:=dK
theorem F0b:(ad6.all λu=>C1u (1,2) u)=true:=dK
theorem F1t:(ad6.all λu=>C1u (3,2) u)=true:=dK
theorem F0f:(ad6.all λu=>C2k (1,1) u)=true:=dK
theorem F2a:(ad6.all λu=>C2k (2,1) u)=true:=dK
theorem F0g:(ad6.all λu=>C2k (3,1) u)=true:=dK
theorem F2i:(ad6.all λu=>C2k (4,1) u)=true:=dK
theorem F1z:(ad6.all λu=>C2k (1,2) u)=true:=dK
theorem F0q:(ad6.all λu=>C2k (3,2) u)=true:=dK
end Go.Proofs.YtjcanieccnljfaaGreat.X
