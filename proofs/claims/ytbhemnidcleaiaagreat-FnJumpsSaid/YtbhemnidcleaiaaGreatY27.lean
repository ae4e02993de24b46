/- A part of the proof. -/
import Derived.Test.YtbhemnidcleaiaaGreatY19
import Derived.Test.YtbhemnidcleaiaaGreatY26
import Derived.Test.YtbhemnidcleaiaaGreatY3
import Derived.Test.YtbhemnidcleaiaaGreatY18
set_option linter.constructorNameAsVariable false
set_option maxHeartbeats 16000000
set_option maxRecDepth 10000
namespace Go.Proofs.YtbhemnidcleaiaaGreat.X
open Go.RowKit Go.XB Go.XN
def C9w (n:Nat) (ps:List Int):Nat→List Int
 | 0=>List.replicate n (-1)
 | k+1=>(C9w n ps k).set (ps.getD k 0).toNat k
def D7d (m:TMesh):List Int:=C9w m.points.length (D0t m false) (D0t m false).length
def D5s (w:World) (rs:List Int) (k:Nat) (e:Ending) (w':World):Prop :=
 ∃ g n bs,e=.returned (.tuple #[.slice (some ⟨g,0,none⟩) n n,.int .i64 k])∧Sl w' (some ⟨g,0,none⟩) n n rs bs∧Own w w' bs∧Below w.heap.size w w'
attribute [local go_sem] O_ opAt P_ M_ Region.wanted yielded
attribute [local simp] P_ M_ MP.eq MP.agg MP.sl MP.slbox A0e
def D6n (w:World) (M:List (List TRat)) (n:Nat) (e:Ending) (w':World):Prop:=∃ o cap gs,e=.returned (.slice (some ⟨o,0,none⟩) n cap)∧MSt w w' o n cap n gs M
end Go.Proofs.YtbhemnidcleaiaaGreat.X

namespace Go.XB
open Go.RowKit
end Go.XB
namespace Go.Proofs.YtbhemnidcleaiaaGreat.X
open Go.RowKit Go.XB Go.XN
attribute [local go_sem] O_ Go.XB.opAt P_ M_ Region.wanted yielded
attribute [local simp] P_ M_ MP.eq MP.agg MP.sl MP.slbox A0e
def D6a (a b c:TPoint) (i j:Nat):TRat:=A3g (B1z a b c) (A1y (if i=j then 6 else 12))
def C0w (a b c:TPoint) (i:Nat):Nat→List TRat
 | 0=>[]
 | j+1=>C0w a b c i j++[D6a a b c i j]
def D0q (a b c:TPoint):Nat→List (List TRat)
 | 0=>[]
 | i+1=>D0q a b c i++[C0w a b c i 3]
def D6g (a b c:TPoint):List (List TRat):=D0q a b c 3
end Go.Proofs.YtbhemnidcleaiaaGreat.X
