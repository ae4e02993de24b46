/- How long the results of the operations on fractions are. -/
import Derived.Test.YthlpjpcnpcclhaaGreatXSum
namespace Go.XN
open Go.XB
theorem mkR_lens (n d : Int) : (mkR n d).num.mag.length ≤ 24 ∧ (mkR n d).den.length ≤ 24 := by
  unfold mkR
  split
  · rename_i h; exact h
  · exact ⟨by decide, by decide⟩
theorem radd_lens (r s : TRat) : (radd r s).num.mag.length ≤ 24 ∧ (radd r s).den.length ≤ 24 := by
  unfold radd
  split
  · exact mkR_lens _ _
  · exact ⟨by decide, by decide⟩
theorem rsum_lens (xs : List TRat) : (rsum xs).num.mag.length ≤ 1048576 ∧ (rsum xs).den.length ≤ 1048576 := by
  unfold rsum
  rcases List.eq_nil_or_concat xs with rfl | ⟨l, a, rfl⟩
  · exact ⟨by decide, by decide⟩
  · rw [List.concat_eq_append, List.foldl_append]
    have := radd_lens (l.foldl radd (rint 0)) a
    exact ⟨Nat.le_trans this.1 (by decide), Nat.le_trans this.2 (by decide)⟩
end Go.XN
