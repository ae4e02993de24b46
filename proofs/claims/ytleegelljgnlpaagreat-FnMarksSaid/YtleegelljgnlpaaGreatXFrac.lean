/- Sums of fractions: their value does not depend on the order (plain). -/
import Derived.Test.YtleegelljgnlpaaGreatXSum
namespace Go.Proofs.YtleegelljgnlpaaGreat.X
open Go.RowKit Go.XB Go.XN

theorem cop_dvd {a b c : Int} (h1 : Int.gcd a b = 1) (h : b ∣ a * c) : b ∣ c := by
  have h2 : b.natAbs ∣ a.natAbs * c.natAbs := by rw [← Int.natAbs_mul]; exact Int.natAbs_dvd_natAbs.2 h
  have h3 : Nat.Coprime b.natAbs a.natAbs := by rw [Nat.coprime_comm]; exact h1
  exact Int.natAbs_dvd_natAbs.1 (h3.dvd_of_dvd_mul_left h2)

theorem cop_eq {a b c d : Int} (hb : 0 < b) (hd : 0 < d) (h1 : Int.gcd a b = 1) (h2 : Int.gcd c d = 1) (e : a * d = c * b) : a = c ∧ b = d := by
  have hbd : b ∣ d := by
    have h : b ∣ a * d := ⟨c, by rw [e, Int.mul_comm]⟩
    exact cop_dvd h1 h
  have hdb : d ∣ b := by
    have h : d ∣ c * b := ⟨a, by rw [← e, Int.mul_comm]⟩
    exact cop_dvd h2 h
  have hbe : b = d := Int.dvd_antisymm (Int.le_of_lt hb) (Int.le_of_lt hd) hbd hdb
  subst hbe
  exact ⟨Int.eq_of_mul_eq_mul_right (by omega) e, rfl⟩

theorem gcd_parts {A B : Int} (hB : 0 < B) : ∃ g a b : Int, 0 < g ∧ A = g * a ∧ B = g * b ∧ 0 < b ∧ Int.gcd a b = 1 ∧ A / Int.gcd A B = a ∧ B / Int.gcd A B = b := by
  have hg : 0 < Int.gcd A B := Int.gcd_pos_of_ne_zero_right A (by omega)
  have hg' : (0 : Int) < Int.gcd A B := by omega
  have h1 := Int.mul_ediv_cancel' (Int.gcd_dvd_left (a := A) (b := B))
  have h2 := Int.mul_ediv_cancel' (Int.gcd_dvd_right (a := A) (b := B))
  refine ⟨Int.gcd A B, A / Int.gcd A B, B / Int.gcd A B, hg', h1.symm, h2.symm, ?_, ?_, rfl, rfl⟩
  · exact Int.ediv_pos_of_pos_of_dvd hB (Int.le_of_lt hg') (Int.gcd_dvd_right _ _)
  · exact Int.gcd_ediv_gcd_ediv_gcd hg

theorem mk_ratio {T : TRat} (hT : RatV T) {A B : Int} (hB : 0 < B) (e : A * denv T = numv T * B) : mkR A B = T := by
  obtain ⟨g, a, b, hg, ha, hb, hb0, h1, e1, e2⟩ := gcd_parts (A := A) hB
  have hc : Int.gcd (numv T) (denv T) = 1 := by
    have := hT.one
    unfold numv denv ival
    split
    · rw [Int.neg_gcd]; exact this
    · exact this
  have e3 : a * denv T = numv T * b := by
    rw [ha, hb] at e
    refine Int.eq_of_mul_eq_mul_left (a := g) (by omega) ?_
    rw [← Int.mul_assoc, e, Int.mul_left_comm]
  obtain ⟨ea, eb⟩ := cop_eq hb0 hT.den0 h1 hc e3
  have eb' : b = val T.den := eb
  unfold mkR
  rw [e1, e2, ea, eb', hT.den.dig_natAbs]
  have hn : dig (numv T).natAbs = T.num.mag := by
    unfold numv
    rw [ival_natAbs, hT.mag.dig_natAbs]
  rw [hn, if_pos ⟨hT.num24, hT.den24⟩]
  unfold numv
  rw [enc_ival hT.num]

theorem mk_val {A B : Int} (hB : 0 < B) (h : ratOkB (mkR A B) = true) : numv (mkR A B) * B = A * denv (mkR A B) := by
  obtain ⟨g, a, b, hg, ha, hb, hb0, h1, e1, e2⟩ := gcd_parts (A := A) hB
  have hm : mkR A B = ⟨encI a, dig b.natAbs⟩ := by
    unfold mkR at h ⊢
    rw [e1, e2] at h ⊢
    split
    · rfl
    · rename_i h2; rw [if_neg h2] at h; rw [ratOkB_zeroR] at h; cases h
  rw [hm]
  unfold numv denv
  simp only [ival_enc, val_dig]
  rw [ha, hb, Int.natAbs_of_nonneg (by omega)]
  rw [Int.mul_left_comm, Int.mul_assoc]

theorem radd_ok {r s : TRat} (h : ratOkB (radd r s) = true) : ratOkB r = true ∧ ratOkB s = true := by
  unfold radd at h
  split at h
  · rename_i h2; simpa using h2
  · rw [ratOkB_zeroR] at h; cases h
theorem radd_eq {r s : TRat} (hr : ratOkB r = true) (hs : ratOkB s = true) : radd r s = mkR (numv r * denv s + numv s * denv r) (denv r * denv s) := by
  unfold radd; rw [hr, hs]; rfl

/-- over the common denominator p the fraction is u / p -/
def Over (p : Int) (r : TRat) (u : Int) : Prop := numv r * p = denv r * u
theorem Over.add {p : Int} {r s : TRat} {u v : Int} (hr : Over p r u) (hs : Over p s v) (h : ratOkB (radd r s) = true) : Over p (radd r s) (u + v) := by
  obtain ⟨o1, o2⟩ := radd_ok h
  have v1 := (ratOkB_iff.1 o1).den0; have v2 := (ratOkB_iff.1 o2).den0
  have e := radd_eq o1 o2
  have hm := mk_val (A := numv r * denv s + numv s * denv r) (B := denv r * denv s) (Int.mul_pos v1 v2) (by rw [← e]; exact h)
  rw [← e] at hm
  have hne : denv r * denv s ≠ 0 := Int.ne_of_gt (Int.mul_pos v1 v2)
  unfold Over at *
  refine Int.eq_of_mul_eq_mul_right hne ?_
  generalize numv (radd r s) = N at *
  generalize denv (radd r s) = D at *
  calc N * p * (denv r * denv s) = (N * (denv r * denv s)) * p := by rw [Int.mul_right_comm]
    _ = ((numv r * p) * denv s + (numv s * p) * denv r) * D := by rw [hm]; grind
    _ = D * (u + v) * (denv r * denv s) := by rw [hr, hs]; grind
theorem Over.last {p : Int} (hp : 0 < p) {r s T : TRat} {u v : Int} (hr : Over p r u) (hs : Over p s v) (hT : Over p T (u + v)) (o1 : ratOkB r = true) (o2 : ratOkB s = true) (o3 : ratOkB T = true) : radd r s = T := by
  have v1 := (ratOkB_iff.1 o1).den0; have v2 := (ratOkB_iff.1 o2).den0
  rw [radd_eq o1 o2]
  refine mk_ratio (ratOkB_iff.1 o3) (Int.mul_pos v1 v2) ?_
  unfold Over at *
  refine Int.eq_of_mul_eq_mul_right (a := p) (by omega) ?_
  calc (numv r * denv s + numv s * denv r) * denv T * p = ((numv r * p) * denv s + (numv s * p) * denv r) * denv T := by grind
    _ = (denv T * (u + v)) * (denv r * denv s) := by rw [hr, hs]; grind
    _ = numv T * (denv r * denv s) * p := by rw [← hT]; grind

theorem fold_bad {L : List TRat} {s : TRat} (h : ratOkB (L.foldl radd s) = true) : ratOkB s = true := by
  induction L generalizing s with
  | nil => exact h
  | cons x L ih => exact (radd_ok (ih h)).1
theorem fold_over {p : Int} {wt : TRat → Int} {L : List TRat} (hw : ∀ x ∈ L, Over p x (wt x)) {s : TRat} {u : Int} (hs : Over p s u) (h : ratOkB (L.foldl radd s) = true) : Over p (L.foldl radd s) (u + (L.map wt).sum) := by
  induction L generalizing s u with
  | nil => simpa using hs
  | cons x L ih =>
    have h1 : Over p (radd s x) (u + wt x) := hs.add (hw x (by simp)) (fold_bad (L := L) h)
    have := ih (fun y hy => hw y (by simp [hy])) h1 h
    simpa [Int.add_assoc] using this
theorem over_zero (p : Int) : Over p (rint 0) 0 := by
  have h : numv (rint 0) = 0 := ival_enc 0
  unfold Over
  rw [h]; simp
theorem denominator (xs : List TRat) (hv : ∀ x ∈ xs, RatV x) : ∃ (p : Int) (wt : TRat → Int), 0 < p ∧ ∀ x ∈ xs, Over p x (wt x) := by
  induction xs with
  | nil => exact ⟨1, fun _ => 0, by decide, fun x hx => by simp at hx⟩
  | cons y ys ih =>
    obtain ⟨p, wt, hp, hw⟩ := ih fun x hx => hv x (by simp [hx])
    have hy := (hv y (by simp)).den0
    have hdy : denv y = val y.den := rfl
    refine ⟨p * denv y, fun x => numv x * (p * denv y) / denv x, Int.mul_pos hp hy, fun x hx => ?_⟩
    unfold Over
    have hd : denv x ∣ numv x * (p * denv y) := by
      rcases List.mem_cons.1 hx with rfl | hx
      · exact ⟨numv x * p, by rw [← Int.mul_assoc, Int.mul_comm]⟩
      · have h := hw x hx
        unfold Over at h
        exact ⟨wt x * denv y, by rw [← Int.mul_assoc, h, Int.mul_assoc]⟩
    exact (Int.mul_ediv_cancel' hd).symm
theorem sum_perm {l m : List Int} (h : l.Perm m) : l.sum = m.sum := by
  induction h with
  | nil => rfl
  | cons x _ ih => simp [ih]
  | swap x y l => simp; omega
  | trans _ _ h1 h2 => exact h1.trans h2
/-- the sum of all, in another order, is the same, if all but the last could be added -/
theorem rsum_total {xs L M : List TRat} {x : TRat} (hp : L.Perm xs) (hv : ∀ x ∈ xs, RatV x) (hT : ratOkB (rsum xs) = true) (hL : L = M ++ [x]) (hs : ratOkB (rsum M) = true) : rsum L = rsum xs := by
  obtain ⟨p, wt, hp0, hw⟩ := denominator xs hv
  have h1 : Over p (rsum xs) (0 + (xs.map wt).sum) := fold_over hw (over_zero p) hT
  have h2 : Over p (rsum M) (0 + (M.map wt).sum) := fold_over (fun y hy => hw y (hp.subset (by rw [hL]; simp [hy]))) (over_zero p) hs
  have hx : x ∈ xs := hp.subset (by rw [hL]; simp)
  have e : (xs.map wt).sum = (M.map wt).sum + wt x := by
    rw [← sum_perm (hp.map wt), hL]; simp
  rw [e, ← Int.add_assoc] at h1
  have h3 := Over.last hp0 h2 (hw x hx) h1 hs (ratOkB_iff.2 (hv x hx)) hT
  rw [← h3, hL]
  unfold rsum
  rw [List.foldl_append]; rfl
end Go.Proofs.YtleegelljgnlpaaGreat.X
