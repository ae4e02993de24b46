/- A part of the proof. -/
import Derived.Test.YtbhemnidcleaiaaGreatY30
import Derived.Test.YtbhemnidcleaiaaGreatY39
import Derived.Test.YtbhemnidcleaiaaGreatY23
set_option linter.constructorNameAsVariable false
set_option maxHeartbeats 16000000
set_option maxRecDepth 10000
namespace Go.Proofs.YtbhemnidcleaiaaGreat.X
open Go.RowKit Go.XB Go.XN
def coA (r:TRat):Bool:=A2a r&&((decide (T_ r=1) || (decide (T_ r=2) || decide (T_ r=4)))&&(decide (-100<=R_ r)&&decide (R_ r<=100)))
def shA (m:TMesh):Int:=C3g m.1 m.1.length
def xsA (m:TMesh):List Int:=m.1.map λp=>R_ p.x*(shA m / T_ p.x)
def ysA (m:TMesh):List Int:=m.1.map λp=>R_ p.y*(shA m / T_ p.y)
theorem E6q {m:TMesh} (h:m.1.all (λp=>A1b p&&(coA p.x&&coA p.y))=true):E5p m.1 (xsA m) (ysA m):=by
 refine⟨by simp[xsA],by simp[ysA],λk p G=>?_⟩;have J:=List.all_eq_true.1 h p (List.mem_of_getElem? G);simp only[Bool.and_eq_true]at J;obtain⟨D,W,X⟩:=J;unfold A1b at D;simp only[Bool.and_eq_true]at D
 have H:∀ (r:TRat) (a E:Int),J_ r=true->coA r=true->a=R_ r*(E / T_ r)->CoS r a E:=λr a E K b O=>by
  unfold coA at b;simp only[Bool.and_eq_true,Bool.or_eq_true,decide_eq_true_eq]at b;have V:=ratOkB_iff.1 K;have u:=V.1;unfold A2j at u;simp only[Bool.and_eq_true,natOkB_iff,Bool.or_eq_true,Bool.not_eq_true',List.isEmpty_eq_false_iff]at u
  have T:NegOk r.1:=λI=>by
   rcases u.2 with h|h;·rw[h]at I;cases I
   exact h
  have S:D124 (T_ r):=by
   rcases b.2.1 with h|h|h;·exact .inl h
   ·exact .inr (.inl h)
   exact .inr (.inr h)
  exact⟨b.1,u.1.2.1,T,S,oM,O⟩
 refine⟨H _ _ _ D.1 W ?_,H _ _ _ D.2 X ?_⟩;·show at0 (xsA m) k=_;unfold at0 xsA;simp[List.getD_eq_getElem?_getD,List.getElem?_map,G,shA]
 show at0 (ysA m) k=_;unfold at0 ysA;simp[List.getD_eq_getElem?_getD,List.getElem?_map,G,shA]
def D8w (m:TMesh):Bool:=m.1.all (λp=>A1b p&&(coA p.x&&coA p.y))&&(decide m.1.Nodup&&E5k (xsA m) (ysA m) m.1.length m.triangles)
theorem B4i {m:TMesh} (h:D8w m=true):MeshI m (xsA m) (ysA m)/\B8e m:=by
 unfold D8w at h;simp only[Bool.and_eq_true,decide_eq_true_eq]at h;refine D8r rfl (λ_ _=>E6q h.1) ?_ h.2.1 h.2.2;rw[List.all_eq_true];intro p b;have:=List.all_eq_true.1 h.1 p b;simp only[Bool.and_eq_true]at this;exact this.1
def clR (m:TMesh) (L:List Int):Option (List Bool):=C8n (P_ m.triangles) m.triangles 50 (B0a (P_ m.triangles).length (A3d m.triangles L))
def E9w (m:TMesh) (L:List Int):Bool :=
 match clR m L with
 |some R=>D8w (A2m m R)&&(decide (L=[])==decide (A2m m R=m))
 |none=>false
def C5z (m:TMesh):Bool:=D8w m&&((decide ((P_ m.triangles).length<=40)&&decide (m.triangles.length<20))&&((m.triangles.all λt=>B4h (P_ m.triangles) t)&&(C6o (A8w m.triangles.length)).all (E9w m)))
set_option maxRecDepth 100000
theorem E9t:C5z (A4d 0)=true:=dK
theorem E9i:C5z (A4d 1)=true:=dK
theorem E9n:C5z (B0j 0)=true:=dK
theorem E9x:C5z (B0j 1)=true:=dK
theorem E9o:C5z (B0j 2)=true:=dK
theorem E9q:C5z (C2p 0)=true:=dK
theorem B3s {m:TMesh} (h:A8j m):C5z m=true:=by
 rcases h with⟨r,b,rfl⟩|⟨r,b,rfl⟩|rfl
 ·obtain rfl|rfl:r=0\/r=1:=oM
  ·exact E9t
  exact E9i
 ·obtain rfl|rfl|rfl:r=0\/r=1\/r=2:=oM
  ·exact E9n
  ·exact E9x
  exact E9o
 exact E9q
theorem D4l {m:TMesh} {L:List Int} (h:A8j m) (J:L∈C6o (A8w m.triangles.length)) :
  ∃ R,RefD m L R (xsA m) (ysA m) (xsA (A2m m R)) (ysA (A2m m R))/\(decide (L=[])=decide (A2m m R=m)):=by
 have u:=B3s h;unfold C5z at u;simp only[Bool.and_eq_true,decide_eq_true_eq]at u;obtain⟨G,⟨S,-⟩,H,I⟩:=u;have b:=List.all_eq_true.1 I L J;unfold E9w clR at b;split at b;·rename_i R K;rw[Bool.and_eq_true]at b;obtain⟨D,E⟩:=B4i G;exact⟨R,⟨D,(B4i b.1).1,λt O=>List.all_eq_true.1 H t O,K,oM,E⟩,eq_of_beq b.2⟩
 cases b
end Go.Proofs.YtbhemnidcleaiaaGreat.X
