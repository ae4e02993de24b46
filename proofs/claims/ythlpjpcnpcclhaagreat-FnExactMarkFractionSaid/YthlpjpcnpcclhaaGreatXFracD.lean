/- MarkFraction: what the ends of the loop give (plain). -/
import Derived.Test.YthlpjpcnpcclhaaGreatXFrac2
import Derived.Test.YthlpjpcnpcclhaaGreatXDen
namespace Go.Proofs.YthlpjpcnpcclhaaGreat.X
open Go.RowKit Go.XB Go.XN Go.XS

theorem zero_ratV : RatV (rint 0) := ratOkB_iff.1 (by decide)
theorem order_nodup (xs : List TRat) : (orderOf xs).Nodup := by
  unfold orderOf
  split
  · exact (List.mergeSort_perm _ _).nodup_iff.2 (iota_nodup _)
  · exact List.nodup_nil
theorem order_in {xs : List TRat} {i : Int} (h : i ∈ orderOf xs) : i ∈ iota xs.length := by
  unfold orderOf at h
  split at h
  · exact (List.mergeSort_perm _ _).subset h
  · cases h
theorem frac_sort (xs : List TRat) (k : Nat) : ((orderOf xs).take k).mergeSort leI = (iota xs.length).filter (fun x => decide (x ∈ (orderOf xs).take k)) :=
  sort_filter ((order_nodup xs).sublist (List.take_sublist _ _)) (fun _ hx => order_in (List.mem_of_mem_take hx))
/-- what the loop's end gives -/
theorem markFrac_some {xs : List TRat} {p : TRat} {l : List Int} (h : sharesB xs p = true) (hw : ratOkB (rmul p (rsum xs)) = true) (hl : fracGo xs (rmul p (rsum xs)) (orderOf xs) (rint 0) = some l) : markFrac xs p = l.mergeSort leI := by
  unfold markFrac; rw [h, hw, hl]; rfl
theorem markFrac_none {xs : List TRat} {p : TRat} (hl : fracGo xs (rmul p (rsum xs)) (orderOf xs) (rint 0) = none) : markFrac xs p = [] := by
  unfold markFrac; split
  · rw [hl]
  · rfl
theorem markFrac_share {xs : List TRat} {p : TRat} (h : sharesB xs p = false) : markFrac xs p = [] := by unfold markFrac; rw [h]; rfl
theorem markFrac_want {xs : List TRat} {p : TRat} (h : ratOkB (rmul p (rsum xs)) = false) : markFrac xs p = [] := by unfold markFrac; rw [h, Bool.and_false]; rfl
theorem shares_ratV {xs : List TRat} {p : TRat} (h : sharesB xs p = true) : ∀ x ∈ xs, RatV x := by
  unfold sharesB at h
  rw [Bool.and_eq_true] at h
  exact fun x hx => ratOkB_iff.1 (List.all_eq_true.1 h.1 x hx)
theorem want_sum {xs : List TRat} {p : TRat} (h : ratOkB (rmul p (rsum xs)) = true) : ratOkB (rsum xs) = true := by
  unfold rmul at h
  split at h
  · rename_i h2; rw [Bool.and_eq_true] at h2; exact h2.2
  · rw [ratOkB_zeroR] at h; cases h
end Go.Proofs.YthlpjpcnpcclhaaGreat.X
