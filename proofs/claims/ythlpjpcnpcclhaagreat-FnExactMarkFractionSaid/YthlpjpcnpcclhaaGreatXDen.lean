/- A result of reckoning is valid just if its denominator is there (plain). -/
import Derived.Test.YthlpjpcnpcclhaaGreatXFrac
namespace Go.Proofs.YthlpjpcnpcclhaaGreat.X
open Go.RowKit Go.XB Go.XN

theorem mk_den {A B : Int} (hB : 0 < B) : (!(mkR A B).den.isEmpty) = ratOkB (mkR A B) := by
  obtain ⟨g, a, b, hg, ha, hb, hb0, h1, e1, e2⟩ := gcd_parts (A := A) hB
  unfold mkR
  rw [e1, e2]
  split
  · rename_i h2
    have hv : val (dig b.natAbs) = b := by rw [val_dig]; omega
    have hne : dig b.natAbs ≠ [] := by intro e; rw [e] at hv; simp [val] at hv; omega
    have hV : ratOkB ⟨encI a, dig b.natAbs⟩ = true := by
      refine ratOkB_iff.2 ⟨?_, dig_can _, by rw [hv]; exact hb0, ?_, h2.2, ?_⟩
      · show bigOkB (encI a) = true
        rw [bigOkB_iff]
        refine ⟨⟨by have := h2.1; show (dig a.natAbs).length ≤ _; omega, dig_can _⟩, ?_⟩
        intro h3
        have h4 : a < 0 := by simpa [encI] using h3
        show dig a.natAbs ≠ []
        intro e
        have h5 := val_dig a.natAbs
        rw [e] at h5
        simp [val] at h5
        omega
      · exact h2.1
      · show Int.gcd (val (dig a.natAbs)) (val (dig b.natAbs)) = 1
        rw [val_dig, val_dig]
        simpa [Int.gcd] using h1
    rw [hV]
    cases hd : dig b.natAbs with
    | nil => exact absurd hd hne
    | cons _ _ => rfl
  · rfl
theorem radd_den (r s : TRat) : (!(radd r s).den.isEmpty) = ratOkB (radd r s) := by
  unfold radd
  split
  · rename_i h
    rw [Bool.and_eq_true] at h
    exact mk_den (Int.mul_pos (ratOkB_iff.1 h.1).den0 (ratOkB_iff.1 h.2).den0)
  · rfl
theorem rmul_den (r s : TRat) : (!(rmul r s).den.isEmpty) = ratOkB (rmul r s) := by
  unfold rmul
  split
  · rename_i h
    rw [Bool.and_eq_true] at h
    exact mk_den (Int.mul_pos (ratOkB_iff.1 h.1).den0 (ratOkB_iff.1 h.2).den0)
  · rfl
end Go.Proofs.YthlpjpcnpcclhaaGreat.X
