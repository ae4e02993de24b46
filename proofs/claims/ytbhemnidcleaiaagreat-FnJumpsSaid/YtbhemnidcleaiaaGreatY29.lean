/- A part of the proof. -/
import Derived.Test.YtbhemnidcleaiaaGreatY28
import Derived.LoopN
set_option linter.constructorNameAsVariable false
set_option maxHeartbeats 16000000
set_option maxRecDepth 10000
namespace Go
open Go.RowKit Go.XB
def D4o (w:World):List Obj→World
 | []=>w
 | o::os=>D4o (w.alloc o) os
end Go
namespace Go.Proofs.YtbhemnidcleaiaaGreat.X
open Go.RowKit Go.XB Go.XN
def D6f:Option TRat→TMatrix
 | none=>⟨[]⟩
 | some r=>⟨[⟨[0],[r]⟩]⟩
def D7e:Option TRat→List (List TRat)
 | none=>[]
 | some r=>[[r]]
def D7l:Option TRat→Nat
 | none=>0
 | some _=>1
def Ok1:Option TRat→Prop
 | none=>True
 | some r=>S_ r=true∧L_ r≠0
def D6k (w:World) (o:Option TRat) (e:Ending) (w':World):Prop:=∃ v s,e=.returned (.tuple #[v,.bool true])∧Agg w' v (D6f o) s∧(∀ b∈s,w.heap.size≤b)∧Below w.heap.size w w'
def D6l (w:World) (o:Option TRat) (e:Ending) (w':World):Prop:=∃ v s,e=.returned v∧Agg w' v (D6f o) s∧(∀ b∈s,w.heap.size≤b)∧Below w.heap.size w w'
attribute [local go_sem] O_ Go.XB.opAt P_ M_ Region.wanted yielded
attribute [local simp] P_ M_ MP.eq MP.agg MP.aggS MP.sl MP.slbox A0e
end Go.Proofs.YtbhemnidcleaiaaGreat.X
