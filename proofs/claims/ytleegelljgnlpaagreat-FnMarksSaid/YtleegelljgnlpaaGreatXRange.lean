/- RangeOf of the program and of the reference. -/
import Derived.Test.YtleegelljgnlpaaGreatXSum
import Derived.Test.YtleegelljgnlpaaGreatP2
import Derived.RegionTactic
namespace Go.XN
open Go.XB
def rangeOf (xs : List TRat) : TRat × TRat × Bool :=
  match xs with
  | [] => (zeroR, zeroR, false)
  | x :: l => if (x :: l).all ratOkB then ((x :: l).foldl rmin x, (x :: l).foldl rmax x, true) else (zeroR, zeroR, false)
end Go.XN
namespace Go.XB
open Go.RowKit Go.XN
/-- a call that hands back two fractions of its own making and a bool -/
def GivesRange (w : World) (r : TRat × TRat × Bool) (e : Ending) (w' : World) : Prop :=
  ∃ v1 v2 s1 s2, e = .returned (.tuple #[v1, v2, .bool r.2.2]) ∧ Agg w' v1 r.1 s1 ∧ Agg w' v2 r.2.1 s2 ∧ Own w w' (s1 ++ s2) ∧ Below w.heap.size w w'
end Go.XB
namespace Go.Proofs.YtleegelljgnlpaaGreat.X
open Go.RowKit Go.XB Go.XN
attribute [local go_sem] fillBy opAt deps depOf Region.wanted yielded
attribute [local simp] deps depOf MP.eq MP.agg MP.sl Facts
set_option linter.constructorNameAsVariable false
theorem _root_.Go.XB.TRat.elemB {w w' : World} {A : Option Addr} {n c : Nat} {xs : List TRat} {bs : List Nat} (h : Sl w A n c xs bs) (hb : Below w.heap.size w w') {k : Nat} (hk : k < n) :
    ∃ (b off : Nat) (x : TRat) (A1 : Option Addr) (n1 c1 : Nat) (A2 : Option Addr) (n2 c2 : Nat) (fs : List Nat), A = some ⟨b, off, none⟩ ∧ b < w.heap.size ∧ xs[k]? = some x ∧ w'.cell? ⟨b, off + k * 3, none⟩ = some (.bool x.num.neg) ∧ w'.cell? ⟨b, off + k * 3 + 1, none⟩ = some (.slice A1 n1 c1) ∧ w'.cell? ⟨b, off + k * 3 + 2, none⟩ = some (.slice A2 n2 c2) ∧ Agg w' (.agg #[.bool x.num.neg, .slice A1 n1 c1, .slice A2 n2 c2]) x fs ∧ ∀ g ∈ fs, g < w.heap.size := by
  obtain ⟨b, off, x, A1, n1, c1, s1, A2, n2, c2, s2, rfl, hl, hx, h0, h1, h2, ha⟩ := TRat.elemA h hk
  exact ⟨b, off, x, A1, n1, c1, A2, n2, c2, s1 ++ s2, rfl, hl, hx, (hb.cell (p := ⟨b, _, none⟩) hl).trans h0, (hb.cell (p := ⟨b, _, none⟩) hl).trans h1, (hb.cell (p := ⟨b, _, none⟩) hl).trans h2, ha.below hb, ha.lt⟩
theorem rmin_ok {r s : TRat} (hr : ratOkB r = true) (hs : ratOkB s = true) : ratOkB (rmin r s) = true := by
  unfold rmin; rw [hr, hs]; simp only [Bool.and_self, if_true]; split <;> assumption
theorem rmax_ok {r s : TRat} (hr : ratOkB r = true) (hs : ratOkB s = true) : ratOkB (rmax r s) = true := by
  unfold rmax; rw [hr, hs]; simp only [Bool.and_self, if_true]; split <;> assumption
theorem gives_range0 {w W : World} (hb : Below w.heap.size w W) : GivesRange w (zeroR, zeroR, false) (.returned (.tuple #[.agg #[.bool false, .slice none 0 0, .slice none 0 0], .agg #[.bool false, .slice none 0 0, .slice none 0 0], .bool false])) W :=
  ⟨_, _, [], [], rfl, zero_agg W, zero_agg W, Own.nil _ _, hb⟩

end Go.Proofs.YtleegelljgnlpaaGreat.X
