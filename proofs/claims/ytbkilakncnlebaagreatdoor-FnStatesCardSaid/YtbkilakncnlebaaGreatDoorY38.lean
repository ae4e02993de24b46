/- A part of the proof. -/
import Derived.Test.YtbkilakncnlebaaGreatDoorY26
import Derived.Test.YtbkilakncnlebaaGreatDoorY33
import Derived.Test.YtbkilakncnlebaaGreatDoorY21
set_option linter.constructorNameAsVariable false
set_option maxHeartbeats 16000000
set_option maxRecDepth 10000
open Bool renaming and_eq_true→CK,true→AD
open Decidable renaming decide→AU
open List renaming all_eq_true→BJ,getD_eq_getElem?_getD→DY,getElem?_map→IE
namespace Go.Proofs.YtbkilakncnlebaaGreatDoor.X
open Go.RowKit Go.XB Go.XN
def coA (r:TRat):Bool:=A2a r&&((AU (T_ r=1) || (AU (T_ r=2) || AU (T_ r=4)))&&(AU (-100<=R_ r)&&AU (R_ r<=100)))
def shA (m:TMesh):Int:=C3g m.1 m.1.length
def xsA (m:TMesh):List Int:=m.1.map λp=>R_ p.x*(shA m / T_ p.x)
def ysA (m:TMesh):List Int:=m.1.map λp=>R_ p.y*(shA m / T_ p.y)
theorem E6q {m:TMesh} (h:m.1.all (λp=>A1b p&&(coA p.x&&coA p.y))=AD):E5p m.1 (xsA m) (ysA m):=by
 refine⟨by simp[xsA],by simp[ysA],λk p E=>?_⟩;have O:=BJ.1 h p (List.mem_of_getElem? E);simp only[CK]at O;obtain⟨D,Z,aa⟩:=O;unfold A1b at D;simp only[CK]at D
 have G:∀ (r:TRat) (a S:Int),J_ r=AD->coA r=AD->a=R_ r*(S / T_ r)->CoS r a S:=λr a S T b W=>by
  unfold coA at b;simp only[CK,Bool.or_eq_true,decide_eq_true_eq]at b;have V:=ratOkB_iff.1 T;have u:=V.1;unfold A2j at u;simp only[CK,natOkB_iff,Bool.or_eq_true,Bool.not_eq_true',List.isEmpty_eq_false_iff]at u
  have Y:NegOk r.1:=λH=>by
   rcases u.2 with h|h;·rw[h]at H;cases H
   exact h
  have X:D124 (T_ r):=by
   rcases b.2.1 with h|h|h;·exact .inl h
   ·exact .inr (.inl h)
   exact .inr (.inr h)
  exact⟨b.1,u.1.2.1,Y,X,oS,W⟩
 refine⟨G _ _ _ D.1 Z ?_,G _ _ _ D.2 aa ?_⟩;·show at0 (xsA m) k=_;unfold at0 xsA;simp[DY,IE,E,shA]
 show at0 (ysA m) k=_;unfold at0 ysA;simp[DY,IE,E,shA]
def D8w (m:TMesh):Bool:=m.1.all (λp=>A1b p&&(coA p.x&&coA p.y))&&(decide m.1.Nodup&&E5k (xsA m) (ysA m) m.1.length m.triangles)
theorem B4i {m:TMesh} (h:D8w m=AD):MeshI m (xsA m) (ysA m)/\B8e m:=by
 unfold D8w at h;simp only[CK,decide_eq_true_eq]at h;refine D8r rfl (λ_ _=>E6q h.1) ?_ h.2.1 h.2.2;rw[BJ];intro p b;have:=BJ.1 h.1 p b;simp only[CK]at this;exact this.1
def clR (m:TMesh) (L:List Int):Option (List Bool):=C8n (P_ m.triangles) m.triangles 50 (B0a (P_ m.triangles).length (A3d m.triangles L))
def E9w (m:TMesh) (L:List Int):Bool :=
 match clR m L with
 |some R=>D8w (A2m m R)&&(AU (L=[])==AU (A2m m R=m))
 |none=>false
def C5z (m:TMesh):Bool:=D8w m&&((AU ((P_ m.triangles).length<=40)&&AU (m.triangles.length<20))&&((m.triangles.all λt=>B4h (P_ m.triangles) t)&&(C6o (A8w m.triangles.length)).all (E9w m)))
set_option maxRecDepth 100000
theorem E9t:C5z (A4d 0)=AD:=dK
theorem E9i:C5z (A4d 1)=AD:=dK
theorem E9n:C5z (B0j 0)=AD:=dK
theorem E9x:C5z (B0j 1)=AD:=dK
theorem E9o:C5z (B0j 2)=AD:=dK
theorem E9q:C5z (C2p 0)=AD:=dK
theorem B3s {m:TMesh} (h:A8j m):C5z m=AD:=by
 rcases h with⟨r,b,rfl⟩|⟨r,b,rfl⟩|rfl
 ·obtain rfl|rfl:r=0\/r=1:=oS
  ·exact E9t
  exact E9i
 ·obtain rfl|rfl|rfl:r=0\/r=1\/r=2:=oS
  ·exact E9n
  ·exact E9x
  exact E9o
 exact E9q
end Go.Proofs.YtbkilakncnlebaaGreatDoor.X
