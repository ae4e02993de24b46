/- A part of the proof. -/
set_option linter.constructorNameAsVariable false
set_option maxHeartbeats 16000000
set_option maxRecDepth 10000
namespace Go.XS
variable {α:Type} {le:α->α->Bool}

structure LinOrd (le:α->α->Bool):Prop where
 trans:∀ a b c,le a b=true->le b c=true->le a c=true
 total:∀ a b,(le a b || le b a)=true
 anti:∀ a b,le a b=true->le b a=true->a=b


def sb (le:α->α->Bool) (B:Nat):Nat->List α->List α
 |0,_=>[]
 |f+1,l=>if l=[]then []else(l.take B).mergeSort le++sb le B f (l.drop B)



end Go.XS
