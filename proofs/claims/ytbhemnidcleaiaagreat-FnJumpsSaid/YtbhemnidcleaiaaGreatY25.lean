/- A part of the proof. -/
import Derived.Ground.NamesProg
import Derived.Ground.Names2Prog
import Derived.Shelf.Bits.Mul64
import Derived.Shelf.Slices.SearchI
import Derived.Test.YtbhemnidcleaiaaGreatY2
set_option linter.constructorNameAsVariable false
set_option maxHeartbeats 16000000
set_option maxRecDepth 10000
namespace Go.Proofs.YtbhemnidcleaiaaGreat.X
open Go.Shelf Go.Proofs
def D4b:Go.Shelf.Ren:=⟨fun | 212=>209 | 263=>260 | 264=>261 | n=>n,fun | 46=>156 | 51=>227 | 146=>254 | 53=>151 | 148=>256 | n=>n,fun | n=>n⟩
def D3z:Go.Shelf.Ren:=⟨fun | 25=>308 | 31=>224 | 32=>315 | 37=>192 | n=>n,fun | 22=>31 | 3=>3 | 4=>4 | 40=>156 | 0=>0 | n=>n,fun | n=>n⟩
end Go.Proofs.YtbhemnidcleaiaaGreat.X
