/- A part of the proof. -/
import Derived.Test.YtbhemnidcleaiaaGreatY20
import Derived.Test.YtbhemnidcleaiaaGreatY14
import Derived.Test.YtbhemnidcleaiaaGreatY12
import Derived.Deep.RegionHeld3
set_option linter.constructorNameAsVariable false
set_option maxHeartbeats 16000000
set_option maxRecDepth 10000
namespace Go.Proofs.YtbhemnidcleaiaaGreat.X
open Go.RowKit Go.XB Go.XN
attribute [local go_sem] O_ opAt P_ M_ Region.wanted yielded
attribute [local simp] P_ M_ MP.eq MP.agg MP.sl A0e

def D5t (w:World) (g:Nat) (A:Option Addr) (n c:Nat) (e:Ending) (w':World):Prop:=∃ b:Bool,e=.returned (.bool b)∧Cur w' g A n c∧w.grownBy w' (some g)
theorem Cur.keep' {w w':World} {g:Nat} {A:Option Addr} {n c:Nat} (h:Cur w g A n c) (hk:w'.heap[g]?=w.heap[g]?) (hs:w.heap.size≤w'.heap.size):Cur w' g A n c:=by
 obtain ⟨i,x,h1,h2,h3,h4,h5,h6,h7⟩:=h
 exact ⟨i,x,h1,by omega,(World.cell?_of_block hk).trans h3,(World.cell?_of_block hk).trans h4,(World.cell?_of_block hk).trans h5,(World.frozen?_of_block hk).trans h6,(World.frozen?_of_block hk).trans h7⟩
theorem Cur.below' {w w':World} {g:Nat} {A:Option Addr} {n c:Nat} (h:Cur w g A n c) (hb:Below w.heap.size w w'):Cur w' g A n c:=by
 have hl:g<w.heap.size:=by obtain ⟨i,x,h1,h2,_⟩:=h;exact h2
 exact h.keep' (hb.block g hl) hb.size
theorem Cur.lt' {w:World} {g:Nat} {A:Option Addr} {n c:Nat} (h:Cur w g A n c):g<w.heap.size:=by obtain ⟨i,x,h1,h2,_⟩:=h;exact h2

end Go.Proofs.YtbhemnidcleaiaaGreat.X
