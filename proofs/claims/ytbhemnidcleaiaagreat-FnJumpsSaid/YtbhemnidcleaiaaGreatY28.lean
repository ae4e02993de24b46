/- A part of the proof. -/
import Derived.Test.YtbhemnidcleaiaaGreatY27
import Derived.Test.YtbhemnidcleaiaaGreatY14
import Derived.Laws.Cover3
import Derived.Test.YtbhemnidcleaiaaGreatY17
set_option linter.constructorNameAsVariable false
set_option maxHeartbeats 16000000
set_option maxRecDepth 10000
namespace Go.Proofs.YtbhemnidcleaiaaGreat.X
open Go.RowKit Go.XB Go.XN
def D4u (a b c:TPoint) (i j:Nat):TRat:=A1c (B1z a b c) (A9c ((C4a a b c).getD i pt0) ((C4a a b c).getD j pt0))
def B9x (a b c:TPoint) (i:Nat):Nat→List TRat
 | 0=>[]
 | j+1=>B9x a b c i j++[D4u a b c i j]
def C6t (a b c:TPoint):Nat→List (List TRat)
 | 0=>[]
 | i+1=>C6t a b c i++[B9x a b c i 3]
def D5h (a b c:TPoint):List (List TRat):=C6t a b c 3
attribute [local go_sem] O_ Go.XB.opAt P_ M_ Region.wanted yielded
attribute [local simp] P_ M_ MP.eq MP.agg MP.sl MP.slbox A0e
end Go.Proofs.YtbhemnidcleaiaaGreat.X
namespace Go.Proofs.YtbhemnidcleaiaaGreat.X
open Go.RowKit Go.XB Go.XN
def D6h (w:World) (M:List (List TRat)) (e:Ending) (w':World):Prop:=∃ A n c bs,e=.returned (.slice A n c)∧Sl w' A n c M bs∧(∀ b∈bs,w.heap.size≤b)∧Below w.heap.size w w'
def D7b (m:TMesh) (t:TTri):List (List TRat):=D6g (A0c m.points t.a) (A0c m.points t.b) (A0c m.points t.c)
def D6t (m:TMesh) (t:TTri):List (List TRat):=D5h (A0c m.points t.a) (A0c m.points t.b) (A0c m.points t.c)
def D4d (d:TRat) (r:List TRat):Nat→List TRat
 | 0=>r
 | j+1=>(D4d d r j).set j (A1c d (r.getD j A1j))
def D6d (d:TRat) (M:List (List TRat)):Nat→List (List TRat)
 | 0=>M
 | i+1=>(D6d d M i).set i (D4d d (M.getD i []) 3)
structure TriOk (m:TMesh) (t:TTri):Prop where
 it:A8c m.points.length t
 pr:A3v [A0c m.points t.a,A0c m.points t.b,A0c m.points t.c]=true
 ar:S_ (B1z (A0c m.points t.a) (A0c m.points t.b) (A0c m.points t.c))=true
attribute [local go_sem] O_ Go.XB.opAt P_ M_ Region.wanted yielded
attribute [local simp] P_ M_ MP.eq MP.agg MP.aggS MP.sl MP.slbox A0e
end Go.Proofs.YtbhemnidcleaiaaGreat.X
