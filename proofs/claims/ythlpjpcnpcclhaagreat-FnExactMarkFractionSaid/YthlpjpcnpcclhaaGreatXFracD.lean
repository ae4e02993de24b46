/- A result of reckoning is valid just if its denominator is there (plain). -/
import Derived.Test.YthlpjpcnpcclhaaGreatXFrac2
namespace Go.Proofs.YthlpjpcnpcclhaaGreat.X
open Go.RowKit Go.XB Go.XN Go.XS

theorem mk_den {A B : Int} (hB : 0 < B) : (!(mkR A B).den.isEmpty) = ratOkB (mkR A B) := by
  obtain ⟨g, a, b, hg, ha, hb, hb0, h1, e1, e2⟩ := gcd_parts (A := A) hB
  unfold mkR
  rw [e1, e2]
  split
  · rename_i h2
    have hv : val (dig b.natAbs) = b := by rw [val_dig]; omega
    have hne : dig b.natAbs ≠ [] := by intro e; rw [e] at hv; simp [val] at hv; omega
    have hV : ratOkB ⟨encI a, dig b.natAbs⟩ = true := by
      refine ratOkB_iff.2 ⟨?_, dig_can _, by rw [hv]; exact hb0, ?_, h2.2, ?_⟩
      · show bigOkB (encI a) = true
        rw [bigOkB_iff]
        refine ⟨⟨by have := h2.1; show (dig a.natAbs).length ≤ _; omega, dig_can _⟩, ?_⟩
        intro h3
        have h4 : a < 0 := by simpa [encI] using h3
        show dig a.natAbs ≠ []
        intro e
        have h5 := val_dig a.natAbs
        rw [e] at h5
        simp [val] at h5
        omega
      · exact h2.1
      · show Int.gcd (val (dig a.natAbs)) (val (dig b.natAbs)) = 1
        rw [val_dig, val_dig]
        simpa [Int.gcd] using h1
    rw [hV]
    cases hd : dig b.natAbs with
    | nil => exact absurd hd hne
    | cons _ _ => rfl
  · rfl
theorem radd_den (r s : TRat) : (!(radd r s).den.isEmpty) = ratOkB (radd r s) := by
  unfold radd
  split
  · rename_i h
    rw [Bool.and_eq_true] at h
    exact mk_den (Int.mul_pos (ratOkB_iff.1 h.1).den0 (ratOkB_iff.1 h.2).den0)
  · rfl
theorem rmul_den (r s : TRat) : (!(rmul r s).den.isEmpty) = ratOkB (rmul r s) := by
  unfold rmul
  split
  · rename_i h
    rw [Bool.and_eq_true] at h
    exact mk_den (Int.mul_pos (ratOkB_iff.1 h.1).den0 (ratOkB_iff.1 h.2).den0)
  · rfl
theorem zero_ratV : RatV (rint 0) := ratOkB_iff.1 (by decide)
theorem order_nodup (xs : List TRat) : (orderOf xs).Nodup := by
  unfold orderOf
  split
  · exact (List.mergeSort_perm _ _).nodup_iff.2 (iota_nodup _)
  · exact List.nodup_nil
theorem order_in {xs : List TRat} {i : Int} (h : i ∈ orderOf xs) : i ∈ iota xs.length := by
  unfold orderOf at h
  split at h
  · exact (List.mergeSort_perm _ _).subset h
  · cases h
theorem frac_sort (xs : List TRat) (k : Nat) : ((orderOf xs).take k).mergeSort leI = (iota xs.length).filter (fun x => decide (x ∈ (orderOf xs).take k)) :=
  sort_filter ((order_nodup xs).sublist (List.take_sublist _ _)) (fun _ hx => order_in (List.mem_of_mem_take hx))
/-- what the loop's end gives -/
theorem markFrac_some {xs : List TRat} {p : TRat} {l : List Int} (h : sharesB xs p = true) (hw : ratOkB (rmul p (rsum xs)) = true) (hl : fracGo xs (rmul p (rsum xs)) (orderOf xs) (rint 0) = some l) : markFrac xs p = l.mergeSort leI := by
  unfold markFrac; rw [h, hw, hl]; rfl
theorem markFrac_none {xs : List TRat} {p : TRat} (hl : fracGo xs (rmul p (rsum xs)) (orderOf xs) (rint 0) = none) : markFrac xs p = [] := by
  unfold markFrac; split
  · rw [hl]
  · rfl
theorem markFrac_share {xs : List TRat} {p : TRat} (h : sharesB xs p = false) : markFrac xs p = [] := by unfold markFrac; rw [h]; rfl
theorem markFrac_want {xs : List TRat} {p : TRat} (h : ratOkB (rmul p (rsum xs)) = false) : markFrac xs p = [] := by unfold markFrac; rw [h, Bool.and_false]; rfl
theorem shares_ratV {xs : List TRat} {p : TRat} (h : sharesB xs p = true) : ∀ x ∈ xs, RatV x := by
  unfold sharesB at h
  rw [Bool.and_eq_true] at h
  exact fun x hx => ratOkB_iff.1 (List.all_eq_true.1 h.1 x hx)
theorem want_sum {xs : List TRat} {p : TRat} (h : ratOkB (rmul p (rsum xs)) = true) : ratOkB (rsum xs) = true := by
  unfold rmul at h
  split at h
  · rename_i h2; rw [Bool.and_eq_true] at h2; exact h2.2
  · rw [ratOkB_zeroR] at h; cases h
end Go.Proofs.YthlpjpcnpcclhaaGreat.X
