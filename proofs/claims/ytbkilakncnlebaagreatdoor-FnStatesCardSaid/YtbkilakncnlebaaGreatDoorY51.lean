/- A part of the proof. -/
import Derived.Test.YtbkilakncnlebaaGreatDoorY41
import Derived.Test.YtbkilakncnlebaaGreatDoorY50
set_option linter.constructorNameAsVariable false
set_option maxHeartbeats 16000000
set_option maxRecDepth 10000
namespace Go.Proofs.YtbkilakncnlebaaGreatDoor.X
open Go.RowKit Go.XB Go.XN
theorem F6x:B3f (mkR 1 3)=true:=dK
theorem F5t {p:TProblem} (h:B4x p):∃ xs ys os,RepD p xs ys os/\CopD p/\StD (C9l p (mkR 1 3) os) xs ys os/\StX (C9l p (mkR 1 3) os) xs ys/\0<p.1.1.length:=by
 obtain⟨os,D,aa,T,O⟩:=F4q h;have b:=D.sol.pr.1;have X:∀ q∈p.1.1,A1b q=true:=λq ab=>List.all_eq_true.1 b.ok q ab;have W:RepD p (xsA p.1) (ysA p.1) os:=⟨D,aa,T,O⟩
 have ac:RepOk (B3q p os):=⟨by have:=b.t1;show(1:Int)<=(p.1.triangles.length:Int);omega,by have:=b.t48;show(p.1.triangles.length:Int)<=48;omega,T,O⟩
 have E:∀ r∈(C9l p (mkR 1 3) os).reports,RepOk r:=λr u=>by
  have:r=B3q p os:=by simpa[C9l]using u
  rw[this];exact ac
 have ad:∀ t∈p.1.triangles,F2t t:=λt u=>by obtain⟨Z,G,H,-⟩:=b.tri t u;have ae:=b.n40;unfold A5v at Z;unfold inB at G H;simp at G H;intro x Y;simp[C2g]at Y;rcases Y with rfl|rfl|rfl|rfl|rfl<;>omega
 refine⟨_,_,os,W,⟨X,Nat.le_trans b.n40 dE,Nat.le_trans b.t48 dE,⟨by rw[h.2.kl];decide,B6l D.sol.pr.dok⟩,⟨by rw[h.2.fl];decide,B6l D.sol.pr.sok⟩⟩,
  ⟨W,F6x,Nat.le_refl _,by show 1<=10;decide,E,rfl⟩,
  ⟨D.sol.pr,X,⟨⟨⟨b.n40,b.t48,ad⟩,h.2.kl,h.2.fl⟩,by show 1<=10;decide,λr u=>by have:=E r u;have:=this.t0;have:=(E r u).t1;constructor<;>omega⟩,E⟩,by have:=b.n3;omega⟩
end Go.Proofs.YtbkilakncnlebaaGreatDoor.X
