/- Part of a claim's proof: texts of this repository's wip,joined by prune.py,without the theorems that the claim does not reach. -/
import Derived.Test.YtpfipnankjeokaaGreatY14
import Derived.Deep.RegionWith
set_option linter.constructorNameAsVariable false
namespace Go.Proofs.YtpfipnankjeokaaGreat.X
open Go.RowKit Go.XB Go.XN
def ptD (x y : Int) (q : Int) : TPoint := ⟨if q = 0 then rint x else radd (rint x) (mkR 1 q),rint y⟩
def inD (x y q : Int) : Prop := (-4 ≤ x ∧ x ≤ 4) ∧ (-4 ≤ y ∧ y ≤ 4) ∧ (q = 0 ∨ (2 ≤ q ∧ q ≤ 4))
attribute [local go_sem] fillBy opAt deps depOf Region.wanted yielded
attribute [local simp] deps depOf MP.eq MP.agg MP.sl Facts
def GivesPt (w : World) (g : Nat) (e : Ending) (w' : World) : Prop := ∃ (x y q : Int) (v : Value) (s : List Nat),e = .returned v ∧ inD x y q ∧ Agg w' v (ptD x y q) s ∧ w.grownBy w' (some g) ∧ ∀ b ∈ s,w.heap.size ≤ b
theorem grown_next {w w1 w2 : World} {r : Option Nat} (h : w.grownBy w1 r) (h2 : w1.grownBy w2 r) : w.grownBy w2 r :=
 ⟨h2.os.trans h.os,h2.tape.trans h.tape,h2.output.trans h.output,Nat.le_trans h.size h2.size,fun k hk hne => (h2.block k (Nat.lt_of_lt_of_le hk h.size) hne).trans (h.block k hk hne)⟩
theorem grown_below {w w1 w2 : World} {r : Option Nat} (h : w.grownBy w1 r) (h2 : Below w1.heap.size w1 w2) : w.grownBy w2 r := grown_next h (grown_below0 h2 r)
end Go.Proofs.YtpfipnankjeokaaGreat.X
