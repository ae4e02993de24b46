/- MarkFraction: what it computes (plain). -/
import Derived.Test.YtleegelljgnlpaaGreatXFrac
import Derived.Test.YtleegelljgnlpaaGreatXOrder
namespace Go.Proofs.YtleegelljgnlpaaGreat.X
open Go.RowKit Go.XB Go.XN Go.XS

/-- the indices taken, until the sum is the wanted one; none, if a sum is too long -/
def fracGo (xs : List TRat) (want : TRat) : List Int → TRat → Option (List Int)
  | [], _ => some []
  | i :: is, s => if 0 ≤ rcmpV s want then some [] else if ratOkB (radd s (xs.getD i.toNat zeroR)) then (fracGo xs want is (radd s (xs.getD i.toNat zeroR))).map (i :: ·) else none
def leI (a b : Int) : Bool := decide (a ≤ b)
def markFrac (xs : List TRat) (p : TRat) : List Int :=
  if sharesB xs p && ratOkB (rmul p (rsum xs)) then
    match fracGo xs (rmul p (rsum xs)) (orderOf xs) (rint 0) with
    | none => []
    | some l => l.mergeSort leI
  else []
/-- at place k: what was taken, and what is to come -/
def FracAt (xs : List TRat) (want : TRat) (order : List Int) (k : Nat) (s : TRat) : Prop :=
  fracGo xs want order (rint 0) = (fracGo xs want (order.drop k) s).map (order.take k ++ ·)
theorem FracAt.start (xs : List TRat) (want : TRat) (order : List Int) : FracAt xs want order 0 (rint 0) := by
  unfold FracAt
  rw [List.drop_zero, List.take_zero]
  cases fracGo xs want order (rint 0) <;> simp
theorem drop_get {l : List Int} {k : Nat} {i : Int} (h : l[k]? = some i) : l.drop k = i :: l.drop (k + 1) := by
  obtain ⟨hk, e⟩ := List.getElem?_eq_some_iff.1 h
  rw [List.drop_eq_getElem_cons hk, e]
theorem take_get {l : List Int} {k : Nat} {i : Int} (h : l[k]? = some i) : l.take (k + 1) = l.take k ++ [i] := by
  obtain ⟨hk, e⟩ := List.getElem?_eq_some_iff.1 h
  rw [List.take_succ_eq_append_getElem hk, e]
theorem FracAt.done {xs : List TRat} {want s : TRat} {order : List Int} (h : FracAt xs want order order.length s) : fracGo xs want order (rint 0) = some order := by
  unfold FracAt at h
  rw [List.drop_length, List.take_length] at h
  simpa [fracGo] using h
theorem FracAt.stop {xs : List TRat} {want s : TRat} {order : List Int} {k : Nat} {i : Int} (h : FracAt xs want order k s) (hi : order[k]? = some i) (hs : 0 ≤ rcmpV s want) : fracGo xs want order (rint 0) = some (order.take k) := by
  unfold FracAt at h
  rw [drop_get hi, fracGo, if_pos hs] at h
  simpa using h
theorem FracAt.next {xs : List TRat} {want s : TRat} {order : List Int} {k : Nat} {i : Int} (h : FracAt xs want order k s) (hi : order[k]? = some i) (hs : ¬ 0 ≤ rcmpV s want) (ho : ratOkB (radd s (xs.getD i.toNat zeroR)) = true) : FracAt xs want order (k + 1) (radd s (xs.getD i.toNat zeroR)) := by
  unfold FracAt at *
  rw [drop_get hi, fracGo, if_neg hs, if_pos ho] at h
  rw [h, take_get hi, Option.map_map]
  congr 1
  funext l
  simp
theorem FracAt.bad {xs : List TRat} {want s : TRat} {order : List Int} {k : Nat} {i : Int} (h : FracAt xs want order k s) (hi : order[k]? = some i) (hs : ¬ 0 ≤ rcmpV s want) (ho : ¬ ratOkB (radd s (xs.getD i.toNat zeroR)) = true) : fracGo xs want order (rint 0) = none := by
  unfold FracAt at h
  rw [drop_get hi, fracGo, if_neg hs, if_neg ho] at h
  simpa using h

/-- the flags of the indices taken -/
def flags (n : Nat) (L : List Int) : List Bool := (iota n).map (fun i => decide (i ∈ L))
theorem flags_len (n : Nat) (L : List Int) : (flags n L).length = n := by simp [flags, iota_len]
theorem iota_get {n k : Nat} (h : k < n) : (iota n)[k]? = some (k : Int) := by simp [iota, h]
theorem flags_set {n i : Nat} {L : List Int} : (flags n L).set i true = flags n (L ++ [(i : Int)]) := by
  apply List.ext_getElem?
  intro j
  by_cases hj : j < n
  · by_cases he : i = j
    · subst he
      rw [List.getElem?_set_self (by rw [flags_len]; exact hj)]
      simp [flags, iota_get hj]
    · rw [List.getElem?_set_ne he]
      have : ¬ (j : Int) = (i : Int) := by omega
      simp [flags, iota_get hj, this]
  · rw [List.getElem?_eq_none (by simp [flags_len]; omega), List.getElem?_eq_none (by rw [flags_len]; omega)]
theorem iota_nodup (n : Nat) : (iota n).Nodup := (iota_up n).imp fun h => by omega
theorem leI_ord : LinOrd leI := by
  constructor <;> (unfold leI; simp only [decide_eq_true_eq, Bool.or_eq_true]; intros; omega)
theorem sort_filter {n : Nat} {L : List Int} (hn : L.Nodup) (hm : ∀ x ∈ L, x ∈ iota n) : L.mergeSort leI = (iota n).filter (fun x => decide (x ∈ L)) := by
  refine sort_eq leI_ord ?_ ?_
  · refine List.Perm.symm ?_
    refine (List.perm_ext_iff_of_nodup hn ((iota_nodup n).filter _)).2 fun x => ?_
    simp only [List.mem_filter, decide_eq_true_eq]
    exact ⟨fun h => ⟨hm x h, h⟩, fun h => h.2⟩
  · exact ((iota_up n).imp fun h => by unfold leI; simp; omega).filter _

/-- the sum of the fractions at these places -/
def ksum (xs : List TRat) (ks : List Int) : TRat := rsum (ks.map (fun k => xs.getD k.toNat zeroR))
theorem ksum_step (xs : List TRat) (ks : List Int) (i : Int) : ksum xs (ks ++ [i]) = radd (ksum xs ks) (xs.getD i.toNat zeroR) := by
  unfold ksum rsum
  rw [List.map_append, List.foldl_append]; rfl
theorem iota_key (xs : List TRat) : (iota xs.length).map (fun k => xs.getD k.toNat zeroR) = xs := by
  apply List.ext_getElem?
  intro j
  by_cases hj : j < xs.length
  · rw [List.getElem?_map, iota_get hj]
    simp [List.getD_eq_getElem?_getD, hj]
  · rw [List.getElem?_eq_none (by rw [List.length_map, iota_len]; omega), List.getElem?_eq_none (by omega)]
theorem order_eq {xs : List TRat} (hv : ∀ x ∈ xs, RatV x) : orderOf xs = (iota xs.length).mergeSort (ordLe xs) := by
  unfold orderOf
  rw [if_pos (List.all_eq_true.2 fun x hx => ratOkB_iff.2 (hv x hx))]
theorem order_perm {xs : List TRat} (hv : ∀ x ∈ xs, RatV x) : (orderOf xs).Perm (iota xs.length) := by
  rw [order_eq hv]; exact List.mergeSort_perm _ _
theorem order_length {xs : List TRat} (hv : ∀ x ∈ xs, RatV x) : (orderOf xs).length = xs.length := by
  rw [(order_perm hv).length_eq, iota_len]
/-- the last sum is never too long, if the sum of all is not -/
theorem frac_last {xs : List TRat} (hv : ∀ x ∈ xs, RatV x) (hT : ratOkB (rsum xs) = true) {k : Nat} {i : Int} (hk : k + 1 = xs.length) (hi : (orderOf xs)[k]? = some i) (hs : ratOkB (ksum xs ((orderOf xs).take k)) = true) : ratOkB (radd (ksum xs ((orderOf xs).take k)) (xs.getD i.toNat zeroR)) = true := by
  have e : orderOf xs = (orderOf xs).take k ++ [i] := by
    rw [← take_get hi, List.take_of_length_le]
    rw [order_length hv]; omega
  have hp : ((orderOf xs).map (fun k => xs.getD k.toNat zeroR)).Perm xs := by
    have := (order_perm hv).map (fun k : Int => xs.getD k.toNat zeroR)
    rwa [iota_key] at this
  have h := rsum_total hp hv hT (M := ((orderOf xs).take k).map (fun k : Int => xs.getD k.toNat zeroR)) (x := xs.getD i.toNat zeroR) (by
    conv => lhs; rw [e]
    rw [List.map_append]; rfl) hs
  rw [← ksum_step, ← e]
  unfold ksum
  rw [h]; exact hT
end Go.Proofs.YtleegelljgnlpaaGreat.X
