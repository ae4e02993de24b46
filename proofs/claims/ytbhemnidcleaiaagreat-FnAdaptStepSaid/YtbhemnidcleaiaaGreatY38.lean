/- A part of the proof. -/
import Derived.Test.YtbhemnidcleaiaaGreatY37
import Derived.Test.YtbhemnidcleaiaaGreatY13
import Derived.Deep.RegionHeld3
set_option linter.constructorNameAsVariable false
set_option maxHeartbeats 16000000
set_option maxRecDepth 10000
namespace Go.Proofs.YtbhemnidcleaiaaGreat.X
open Go.RowKit Go.XB Go.XN
attribute [local go_sem] L_ opAt N_ M_ Region.wanted yielded
attribute [local simp] N_ M_ MP.eq MP.agg MP.sl A0r
theorem Cur.keep' {w w':World} {g:Nat} {A:Option Addr} {n c:Nat} (h:Cur w g A n c) (b:w'.1[g]?=w.1[g]?) (K:w.1.size<=w'.1.size):Cur w' g A n c:=by
 obtain⟨i,x,u,J,D,E,G,H,I⟩:=h;exact⟨i,x,u,oM,(World.cell?_of_block b).trans D,(World.cell?_of_block b).trans E,(World.cell?_of_block b).trans G,(World.frozen?_of_block b).trans H,(World.frozen?_of_block b).trans I⟩
theorem Cur.below' {w w':World} {g:Nat} {A:Option Addr} {n c:Nat} (h:Cur w g A n c) (b:Bw w w'):Cur w' g A n c:=by
 have D:g<w.1.size:=by obtain⟨i,x,E,u,_⟩:=h;exact u
 exact h.keep' (b.block g D) b.size
theorem Cur.lt' {w:World} {g:Nat} {A:Option Addr} {n c:Nat} (h:Cur w g A n c):g<w.1.size:=by obtain⟨i,x,h1,h2,_⟩:=h;exact h2
end Go.Proofs.YtbhemnidcleaiaaGreat.X
