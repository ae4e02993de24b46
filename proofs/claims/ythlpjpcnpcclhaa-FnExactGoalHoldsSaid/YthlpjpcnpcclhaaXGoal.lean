/- GoalHolds of the program and of the reference. -/
import Derived.Test.YthlpjpcnpcclhaaP10
namespace Go.XN
open Go.XB
def goalHoldsB (g : TGoal) (r : TRat) : Bool := (ratOkB (rmul (rsub r g.value) (rsub r g.value)) && ratOkB g.square) && decide (rcmpV (rmul (rsub r g.value) (rsub r g.value)) g.square ≤ 0)
end Go.XN
namespace Go.Proofs.Ythlpjpcnpcclhaa.X
open Go.RowKit Go.XB Go.XN
attribute [local go_sem] fillBy opAt deps depOf Region.wanted yielded
attribute [local simp] deps depOf MP.eq MP.agg MP.sl Facts
set_option linter.constructorNameAsVariable false

set_option maxHeartbeats 4000000 in
set_option maxRecDepth 10000 in
theorem impl_GoalHolds (v1 v2 : Value) (g : TGoal) (r : TRat) (b1 b2 : List Nat) (w : World) (hx : Agg w v1 g b1) (hy : Agg w v2 r b2) :
    Calls Try.prog 25 #[v1, v2] w (Gives w (.bool (goalHoldsB g r))) := by
  have HX := hid hx; have HY := hid hy
  obtain ⟨A1, n1, c1, s1, A2, n2, c2, s2, A4, n4, c4, s4, A5, n5, c5, s5, rfl, rfl, h1, h2, h4, h5⟩ := TGoal.agg hx
  obtain ⟨A7, n7, c7, s7, A8, n8, c8, s8, rfl, rfl, h7, h8⟩ := TRat.agg hy
  have HV := hid (TRat.mkAgg (x := g.value) h1 h2); have HQ := hid (TRat.mkAgg (x := g.square) h4 h5)
  clear h1 h2 h4 h5 h7 h8 hx hy
  cases hok : ratOkB (rmul (rsub r g.value) (rsub r g.value)) && ratOkB g.square
  · have E := hid (show false = goalHoldsB g r by unfold goalHoldsB; rw [hok]; rfl)
    have OK := hid (ok_two hok)
    clear hok
    go_enter Try.func25, Try.ntmps25
    go_wp2_with fail
    refine (impl_RatSub _ _ r g.value _ _ _ (Agg.below HY.out (by (repeat (first | (with_reducible exact Below.refl _ _) | ((with_reducible refine Below.set ?_ ?_ _); rotate_left; (simp <;> omega)) | (with_reducible refine Below.box_ ?_ _) | (with_reducible refine Below.next ?_ (by assumption)))))) (Agg.below HV.out (by (repeat (first | (with_reducible exact Below.refl _ _) | ((with_reducible refine Below.set ?_ ?_ _); rotate_left; (simp <;> omega)) | (with_reducible refine Below.box_ ?_ _) | (with_reducible refine Below.next ?_ (by assumption))))))).mono ?_
    rintro _ w1 ⟨vD, sD, rfl, haD, hoD, hbD⟩
    obtain ⟨D1, D2, D3, D4, D5, D6, D7, D8, rfl, hzD, _, _⟩ := TRat.agg haD
    have HD := hid haD
    clear haD hoD hzD
    obtain ⟨hc_w1, hf_w1⟩ := bcell hbD
    have hz0_w1 : w.heap.size < w1.heap.size := by have := hbD.size; (try simp at this); omega
    have hz1_w1 : w.heap.size + 1 < w1.heap.size := by have := hbD.size; (try simp at this); omega
    generalize rsub r g.value = d at *
    go_wp2_with fail
    refine (impl_RatMul _ _ d d _ _ _ (Agg.below HD.out (Below.box _)) (Agg.below HD.out (Below.box _))).mono ?_
    rintro _ w2 ⟨vS, sS, rfl, haS, hoS, hbS⟩
    obtain ⟨S1, S2, S3, S4, S5, S6, S7, S8, rfl, hzS, _, _⟩ := TRat.agg haS
    have HS := hid haS
    clear haS hoS hzS
    have hb2 : Below w.heap.size w w2 := by (repeat (first | (with_reducible exact Below.refl _ _) | ((with_reducible refine Below.set ?_ ?_ _); rotate_left; (simp <;> omega)) | (with_reducible refine Below.box_ ?_ _) | (with_reducible refine Below.next ?_ (by assumption))))
    obtain ⟨hc_w2, hf_w2⟩ := bcell hbS
    have hz0_w2 : w.heap.size < w2.heap.size := by have := hbS.size; (try simp at this); omega
    have hz1_w2 : w.heap.size + 1 < w2.heap.size := by have := hbS.size; (try simp at this); omega
    have hz2_w2 : w1.heap.size < w2.heap.size := by have := hbS.size; (try simp at this); omega
    generalize rmul d d = s at *
    go_wp2_with fail
    have C := impl_areRats (some ⟨w2.heap.size + 1, 0, none⟩) 2 2 [s, g.square] _ ((w2.alloc (.cells #[.bool s.num.neg, .slice S1 S2 S3, .slice S5 S6 S7] 28)).alloc (.cells #[.bool s.num.neg, .slice S1 S2 S3, .slice S5 S6 S7, .bool g.square.num.neg, .slice A4 n4 c4, .slice A5 n5 c5] 28)) (sl_two (Agg.below HS.out (by (repeat (first | (with_reducible exact Below.refl _ _) | ((with_reducible refine Below.set ?_ ?_ _); rotate_left; (simp <;> omega)) | (with_reducible refine Below.box_ ?_ _) | (with_reducible refine Below.next ?_ (by assumption)))))) (Agg.below HQ.out (by (repeat (first | (with_reducible exact Below.refl _ _) | ((with_reducible refine Below.set ?_ ?_ _); rotate_left; (simp <;> omega)) | (with_reducible refine Below.box_ ?_ _) | (with_reducible refine Below.next ?_ (by assumption)))))) (by simp) (by go_simp) (by go_simp) (by go_simp) (by go_simp) (by go_simp) (by go_simp))
    rw [OK.out] at C
    refine C.mono ?_
    clear C
    rintro _ w3 ⟨rfl, hb3⟩
    go_wp2
    go_ret
    exact ⟨ret_bool E.out, by (repeat (first | (with_reducible exact Below.refl _ _) | ((with_reducible refine Below.set ?_ ?_ _); rotate_left; (simp <;> omega)) | (with_reducible refine Below.box_ ?_ _) | (with_reducible refine Below.next ?_ (by assumption))))⟩
  · have E := hid (show decide (rcmpV (rmul (rsub r g.value) (rsub r g.value)) g.square ≤ 0) = goalHoldsB g r by unfold goalHoldsB; rw [hok]; rfl)
    have OK := hid (ok_two hok)
    rw [Bool.and_eq_true] at hok
    have VS := hid (ratOkB_iff.1 hok.1); have VQ := hid (ratOkB_iff.1 hok.2)
    clear hok
    go_enter Try.func25, Try.ntmps25
    go_wp2_with fail
    refine (impl_RatSub _ _ r g.value _ _ _ (Agg.below HY.out (by (repeat (first | (with_reducible exact Below.refl _ _) | ((with_reducible refine Below.set ?_ ?_ _); rotate_left; (simp <;> omega)) | (with_reducible refine Below.box_ ?_ _) | (with_reducible refine Below.next ?_ (by assumption)))))) (Agg.below HV.out (by (repeat (first | (with_reducible exact Below.refl _ _) | ((with_reducible refine Below.set ?_ ?_ _); rotate_left; (simp <;> omega)) | (with_reducible refine Below.box_ ?_ _) | (with_reducible refine Below.next ?_ (by assumption))))))).mono ?_
    rintro _ w1 ⟨vD, sD, rfl, haD, hoD, hbD⟩
    obtain ⟨D1, D2, D3, D4, D5, D6, D7, D8, rfl, hzD, _, _⟩ := TRat.agg haD
    have HD := hid haD
    clear haD hoD hzD
    obtain ⟨hc_w1, hf_w1⟩ := bcell hbD
    have hz0_w1 : w.heap.size < w1.heap.size := by have := hbD.size; (try simp at this); omega
    have hz1_w1 : w.heap.size + 1 < w1.heap.size := by have := hbD.size; (try simp at this); omega
    generalize rsub r g.value = d at *
    go_wp2_with fail
    refine (impl_RatMul _ _ d d _ _ _ (Agg.below HD.out (Below.box _)) (Agg.below HD.out (Below.box _))).mono ?_
    rintro _ w2 ⟨vS, sS, rfl, haS, hoS, hbS⟩
    obtain ⟨S1, S2, S3, S4, S5, S6, S7, S8, rfl, hzS, _, _⟩ := TRat.agg haS
    have HS := hid haS
    clear haS hoS hzS
    have hb2 : Below w.heap.size w w2 := by (repeat (first | (with_reducible exact Below.refl _ _) | ((with_reducible refine Below.set ?_ ?_ _); rotate_left; (simp <;> omega)) | (with_reducible refine Below.box_ ?_ _) | (with_reducible refine Below.next ?_ (by assumption))))
    obtain ⟨hc_w2, hf_w2⟩ := bcell hbS
    have hz0_w2 : w.heap.size < w2.heap.size := by have := hbS.size; (try simp at this); omega
    have hz1_w2 : w.heap.size + 1 < w2.heap.size := by have := hbS.size; (try simp at this); omega
    have hz2_w2 : w1.heap.size < w2.heap.size := by have := hbS.size; (try simp at this); omega
    generalize rmul d d = s at *
    go_wp2_with fail
    have C := impl_areRats (some ⟨w2.heap.size + 1, 0, none⟩) 2 2 [s, g.square] _ ((w2.alloc (.cells #[.bool s.num.neg, .slice S1 S2 S3, .slice S5 S6 S7] 28)).alloc (.cells #[.bool s.num.neg, .slice S1 S2 S3, .slice S5 S6 S7, .bool g.square.num.neg, .slice A4 n4 c4, .slice A5 n5 c5] 28)) (sl_two (Agg.below HS.out (by (repeat (first | (with_reducible exact Below.refl _ _) | ((with_reducible refine Below.set ?_ ?_ _); rotate_left; (simp <;> omega)) | (with_reducible refine Below.box_ ?_ _) | (with_reducible refine Below.next ?_ (by assumption)))))) (Agg.below HQ.out (by (repeat (first | (with_reducible exact Below.refl _ _) | ((with_reducible refine Below.set ?_ ?_ _); rotate_left; (simp <;> omega)) | (with_reducible refine Below.box_ ?_ _) | (with_reducible refine Below.next ?_ (by assumption)))))) (by simp) (by go_simp) (by go_simp) (by go_simp) (by go_simp) (by go_simp) (by go_simp))
    rw [OK.out] at C
    refine C.mono ?_
    clear C
    rintro _ w3 ⟨rfl, hb3⟩
    obtain ⟨hc_w3, hf_w3⟩ := bcell hb3
    have hz0_w3 : w.heap.size < w3.heap.size := by have := hb3.size; (try simp at this); omega
    have hz1_w3 : w.heap.size + 1 < w3.heap.size := by have := hb3.size; (try simp at this); omega
    have hy0 : w.heap.size < w2.heap.size + 1 + 1 := by omega
    have hy1 : w.heap.size + 1 < w2.heap.size + 1 + 1 := by omega
    have hy2 : w.heap.size < w2.heap.size + 1 := by omega
    have hy3 : w2.heap.size < w3.heap.size := by have := hb3.size; (try simp at this); omega
    have hy4 : w2.heap.size + 1 < w3.heap.size := by have := hb3.size; (try simp at this); omega
    go_wp2_with fail
    refine (impl_compare _ _ s g.square _ _ _ (Agg.below HS.out (by (repeat (first | (with_reducible exact Below.refl _ _) | ((with_reducible refine Below.set ?_ ?_ _); rotate_left; (simp <;> omega)) | (with_reducible refine Below.box_ ?_ _) | (with_reducible refine Below.next ?_ (by assumption)))))) (Agg.below HQ.out (by (repeat (first | (with_reducible exact Below.refl _ _) | ((with_reducible refine Below.set ?_ ?_ _); rotate_left; (simp <;> omega)) | (with_reducible refine Below.box_ ?_ _) | (with_reducible refine Below.next ?_ (by assumption)))))) VS.out VQ.out).mono ?_
    rintro _ w4 ⟨rfl, hb4⟩
    go_wp2
    go_ret
    exact ⟨ret_bool E.out, by (repeat (first | (with_reducible exact Below.refl _ _) | ((with_reducible refine Below.set ?_ ?_ _); rotate_left; (simp <;> omega)) | (with_reducible refine Below.box_ ?_ _) | (with_reducible refine Below.next ?_ (by assumption))))⟩

set_option maxHeartbeats 4000000 in
set_option maxRecDepth 10000 in
theorem spec_GoalHolds (v1 v2 : Value) (g : TGoal) (r : TRat) (b1 b2 : List Nat) (w : World) (hx : Agg w v1 g b1) (hy : Agg w v2 r b2) :
    Calls Try.prog 22 #[v1, v2] w (Gives w (.bool (goalHoldsB g r))) := by
  have HX := hid hx; have HY := hid hy
  obtain ⟨A1, n1, c1, s1, A2, n2, c2, s2, A4, n4, c4, s4, A5, n5, c5, s5, rfl, rfl, h1, h2, h4, h5⟩ := TGoal.agg hx
  obtain ⟨A7, n7, c7, s7, A8, n8, c8, s8, rfl, rfl, h7, h8⟩ := TRat.agg hy
  have HV := hid (TRat.mkAgg (x := g.value) h1 h2); have HQ := hid (TRat.mkAgg (x := g.square) h4 h5)
  clear h1 h2 h4 h5 h7 h8 hx hy
  cases hr : ratOkB (rmul (rsub r g.value) (rsub r g.value))
  · have E := hid (show false = goalHoldsB g r by unfold goalHoldsB; rw [hr]; rfl)
    have R := hid hr
    clear hr
    go_enter Try.func22, Try.ntmps22
    go_wp2_with fail
    refine (spec_RatSub _ _ r g.value _ _ _ (Agg.below HY.out (by (repeat (first | (with_reducible exact Below.refl _ _) | ((with_reducible refine Below.set ?_ ?_ _); rotate_left; (simp <;> omega)) | (with_reducible refine Below.box_ ?_ _) | (with_reducible refine Below.next ?_ (by assumption)))))) (Agg.below HV.out (by (repeat (first | (with_reducible exact Below.refl _ _) | ((with_reducible refine Below.set ?_ ?_ _); rotate_left; (simp <;> omega)) | (with_reducible refine Below.box_ ?_ _) | (with_reducible refine Below.next ?_ (by assumption))))))).mono ?_
    rintro _ w1 ⟨vD, sD, rfl, haD, hoD, hbD⟩
    obtain ⟨D1, D2, D3, D4, D5, D6, D7, D8, rfl, hzD, _, _⟩ := TRat.agg haD
    have HD := hid haD
    clear haD hoD hzD
    obtain ⟨hc_w1, hf_w1⟩ := bcell hbD
    have hz0_w1 : w.heap.size < w1.heap.size := by have := hbD.size; (try simp at this); omega
    have hz1_w1 : w.heap.size + 1 < w1.heap.size := by have := hbD.size; (try simp at this); omega
    generalize rsub r g.value = d at *
    go_wp2_with fail
    refine (spec_RatMul _ _ d d _ _ _ (Agg.below HD.out (Below.box _)) (Agg.below HD.out (Below.box _))).mono ?_
    rintro _ w2 ⟨vS, sS, rfl, haS, hoS, hbS⟩
    obtain ⟨S1, S2, S3, S4, S5, S6, S7, S8, rfl, hzS, _, _⟩ := TRat.agg haS
    have HS := hid haS
    clear haS hoS hzS
    have hb2 : Below w.heap.size w w2 := by (repeat (first | (with_reducible exact Below.refl _ _) | ((with_reducible refine Below.set ?_ ?_ _); rotate_left; (simp <;> omega)) | (with_reducible refine Below.box_ ?_ _) | (with_reducible refine Below.next ?_ (by assumption))))
    obtain ⟨hc_w2, hf_w2⟩ := bcell hbS
    have hz0_w2 : w.heap.size < w2.heap.size := by have := hbS.size; (try simp at this); omega
    have hz1_w2 : w.heap.size + 1 < w2.heap.size := by have := hbS.size; (try simp at this); omega
    have hz2_w2 : w1.heap.size < w2.heap.size := by have := hbS.size; (try simp at this); omega
    generalize rmul d d = s at *
    go_wp2_with fail
    have C := spec_RatOk _ s _ (w2.alloc (.cells #[.bool s.num.neg, .slice S1 S2 S3, .slice S5 S6 S7] 28)) (Agg.below HS.out (by (repeat (first | (with_reducible exact Below.refl _ _) | ((with_reducible refine Below.set ?_ ?_ _); rotate_left; (simp <;> omega)) | (with_reducible refine Below.box_ ?_ _) | (with_reducible refine Below.next ?_ (by assumption))))))
    rw [R.out] at C
    refine C.mono ?_
    clear C
    rintro _ w3 ⟨rfl, hb3⟩
    obtain ⟨hc_w3, hf_w3⟩ := bcell hb3
    have hz0_w3 : w.heap.size < w3.heap.size := by have := hb3.size; (try simp at this); omega
    have hz1_w3 : w.heap.size + 1 < w3.heap.size := by have := hb3.size; (try simp at this); omega
    have hz2_w3 : w2.heap.size < w3.heap.size := by have := hb3.size; (try simp at this); omega
    have hz3_w3 : w.heap.size < w2.heap.size + 1 := by omega
    have hz4_w3 : w.heap.size + 1 < w2.heap.size + 1 := by omega
    go_wp2
    go_ret
    exact ⟨ret_bool E.out, by (repeat (first | (with_reducible exact Below.refl _ _) | ((with_reducible refine Below.set ?_ ?_ _); rotate_left; (simp <;> omega)) | (with_reducible refine Below.box_ ?_ _) | (with_reducible refine Below.next ?_ (by assumption))))⟩
  cases hs : ratOkB g.square
  · have E := hid (show false = goalHoldsB g r by unfold goalHoldsB; rw [hr, hs]; rfl)
    have R := hid hr; have S := hid hs
    clear hr hs
    go_enter Try.func22, Try.ntmps22
    go_wp2_with fail
    refine (spec_RatSub _ _ r g.value _ _ _ (Agg.below HY.out (by (repeat (first | (with_reducible exact Below.refl _ _) | ((with_reducible refine Below.set ?_ ?_ _); rotate_left; (simp <;> omega)) | (with_reducible refine Below.box_ ?_ _) | (with_reducible refine Below.next ?_ (by assumption)))))) (Agg.below HV.out (by (repeat (first | (with_reducible exact Below.refl _ _) | ((with_reducible refine Below.set ?_ ?_ _); rotate_left; (simp <;> omega)) | (with_reducible refine Below.box_ ?_ _) | (with_reducible refine Below.next ?_ (by assumption))))))).mono ?_
    rintro _ w1 ⟨vD, sD, rfl, haD, hoD, hbD⟩
    obtain ⟨D1, D2, D3, D4, D5, D6, D7, D8, rfl, hzD, _, _⟩ := TRat.agg haD
    have HD := hid haD
    clear haD hoD hzD
    obtain ⟨hc_w1, hf_w1⟩ := bcell hbD
    have hz0_w1 : w.heap.size < w1.heap.size := by have := hbD.size; (try simp at this); omega
    have hz1_w1 : w.heap.size + 1 < w1.heap.size := by have := hbD.size; (try simp at this); omega
    generalize rsub r g.value = d at *
    go_wp2_with fail
    refine (spec_RatMul _ _ d d _ _ _ (Agg.below HD.out (Below.box _)) (Agg.below HD.out (Below.box _))).mono ?_
    rintro _ w2 ⟨vS, sS, rfl, haS, hoS, hbS⟩
    obtain ⟨S1, S2, S3, S4, S5, S6, S7, S8, rfl, hzS, _, _⟩ := TRat.agg haS
    have HS := hid haS
    clear haS hoS hzS
    have hb2 : Below w.heap.size w w2 := by (repeat (first | (with_reducible exact Below.refl _ _) | ((with_reducible refine Below.set ?_ ?_ _); rotate_left; (simp <;> omega)) | (with_reducible refine Below.box_ ?_ _) | (with_reducible refine Below.next ?_ (by assumption))))
    obtain ⟨hc_w2, hf_w2⟩ := bcell hbS
    have hz0_w2 : w.heap.size < w2.heap.size := by have := hbS.size; (try simp at this); omega
    have hz1_w2 : w.heap.size + 1 < w2.heap.size := by have := hbS.size; (try simp at this); omega
    have hz2_w2 : w1.heap.size < w2.heap.size := by have := hbS.size; (try simp at this); omega
    generalize rmul d d = s at *
    go_wp2_with fail
    have C := spec_RatOk _ s _ (w2.alloc (.cells #[.bool s.num.neg, .slice S1 S2 S3, .slice S5 S6 S7] 28)) (Agg.below HS.out (by (repeat (first | (with_reducible exact Below.refl _ _) | ((with_reducible refine Below.set ?_ ?_ _); rotate_left; (simp <;> omega)) | (with_reducible refine Below.box_ ?_ _) | (with_reducible refine Below.next ?_ (by assumption))))))
    rw [R.out] at C
    refine C.mono ?_
    clear C
    rintro _ w3 ⟨rfl, hb3⟩
    obtain ⟨hc_w3, hf_w3⟩ := bcell hb3
    have hz0_w3 : w.heap.size < w3.heap.size := by have := hb3.size; (try simp at this); omega
    have hz1_w3 : w.heap.size + 1 < w3.heap.size := by have := hb3.size; (try simp at this); omega
    have hz2_w3 : w2.heap.size < w3.heap.size := by have := hb3.size; (try simp at this); omega
    have hz3_w3 : w.heap.size < w2.heap.size + 1 := by omega
    have hz4_w3 : w.heap.size + 1 < w2.heap.size + 1 := by omega
    go_wp2_with fail
    have C := spec_RatOk _ g.square _ w3 (Agg.below HQ.out (by (repeat (first | (with_reducible exact Below.refl _ _) | ((with_reducible refine Below.set ?_ ?_ _); rotate_left; (simp <;> omega)) | (with_reducible refine Below.box_ ?_ _) | (with_reducible refine Below.next ?_ (by assumption))))))
    rw [S.out] at C
    refine C.mono ?_
    clear C
    rintro _ w4 ⟨rfl, hb4⟩
    obtain ⟨hc_w4, hf_w4⟩ := bcell hb4
    have hz0_w4 : w.heap.size < w4.heap.size := by have := hb4.size; (try simp at this); omega
    have hz1_w4 : w.heap.size + 1 < w4.heap.size := by have := hb4.size; (try simp at this); omega
    have hz2_w4 : w2.heap.size < w4.heap.size := by have := hb4.size; (try simp at this); omega
    go_wp2
    go_ret
    exact ⟨ret_bool E.out, by (repeat (first | (with_reducible exact Below.refl _ _) | ((with_reducible refine Below.set ?_ ?_ _); rotate_left; (simp <;> omega)) | (with_reducible refine Below.box_ ?_ _) | (with_reducible refine Below.next ?_ (by assumption))))⟩
  have E := hid (show decide (rcmp (rmul (rsub r g.value) (rsub r g.value)) g.square ≤ 0) = goalHoldsB g r by unfold goalHoldsB rcmp; rw [hr, hs]; rfl)
  have R := hid hr; have S := hid hs
  clear hr hs
  go_enter Try.func22, Try.ntmps22
  go_wp2_with fail
  refine (spec_RatSub _ _ r g.value _ _ _ (Agg.below HY.out (by (repeat (first | (with_reducible exact Below.refl _ _) | ((with_reducible refine Below.set ?_ ?_ _); rotate_left; (simp <;> omega)) | (with_reducible refine Below.box_ ?_ _) | (with_reducible refine Below.next ?_ (by assumption)))))) (Agg.below HV.out (by (repeat (first | (with_reducible exact Below.refl _ _) | ((with_reducible refine Below.set ?_ ?_ _); rotate_left; (simp <;> omega)) | (with_reducible refine Below.box_ ?_ _) | (with_reducible refine Below.next ?_ (by assumption))))))).mono ?_
  rintro _ w1 ⟨vD, sD, rfl, haD, hoD, hbD⟩
  obtain ⟨D1, D2, D3, D4, D5, D6, D7, D8, rfl, hzD, _, _⟩ := TRat.agg haD
  have HD := hid haD
  clear haD hoD hzD
  obtain ⟨hc_w1, hf_w1⟩ := bcell hbD
  have hz0_w1 : w.heap.size < w1.heap.size := by have := hbD.size; (try simp at this); omega
  have hz1_w1 : w.heap.size + 1 < w1.heap.size := by have := hbD.size; (try simp at this); omega
  generalize rsub r g.value = d at *
  go_wp2_with fail
  refine (spec_RatMul _ _ d d _ _ _ (Agg.below HD.out (Below.box _)) (Agg.below HD.out (Below.box _))).mono ?_
  rintro _ w2 ⟨vS, sS, rfl, haS, hoS, hbS⟩
  obtain ⟨S1, S2, S3, S4, S5, S6, S7, S8, rfl, hzS, _, _⟩ := TRat.agg haS
  have HS := hid haS
  clear haS hoS hzS
  have hb2 : Below w.heap.size w w2 := by (repeat (first | (with_reducible exact Below.refl _ _) | ((with_reducible refine Below.set ?_ ?_ _); rotate_left; (simp <;> omega)) | (with_reducible refine Below.box_ ?_ _) | (with_reducible refine Below.next ?_ (by assumption))))
  obtain ⟨hc_w2, hf_w2⟩ := bcell hbS
  have hz0_w2 : w.heap.size < w2.heap.size := by have := hbS.size; (try simp at this); omega
  have hz1_w2 : w.heap.size + 1 < w2.heap.size := by have := hbS.size; (try simp at this); omega
  have hz2_w2 : w1.heap.size < w2.heap.size := by have := hbS.size; (try simp at this); omega
  generalize rmul d d = s at *
  go_wp2_with fail
  have C := spec_RatOk _ s _ (w2.alloc (.cells #[.bool s.num.neg, .slice S1 S2 S3, .slice S5 S6 S7] 28)) (Agg.below HS.out (by (repeat (first | (with_reducible exact Below.refl _ _) | ((with_reducible refine Below.set ?_ ?_ _); rotate_left; (simp <;> omega)) | (with_reducible refine Below.box_ ?_ _) | (with_reducible refine Below.next ?_ (by assumption))))))
  rw [R.out] at C
  refine C.mono ?_
  clear C
  rintro _ w3 ⟨rfl, hb3⟩
  obtain ⟨hc_w3, hf_w3⟩ := bcell hb3
  have hz0_w3 : w.heap.size < w3.heap.size := by have := hb3.size; (try simp at this); omega
  have hz1_w3 : w.heap.size + 1 < w3.heap.size := by have := hb3.size; (try simp at this); omega
  have hz2_w3 : w2.heap.size < w3.heap.size := by have := hb3.size; (try simp at this); omega
  have hz3_w3 : w.heap.size < w2.heap.size + 1 := by omega
  have hz4_w3 : w.heap.size + 1 < w2.heap.size + 1 := by omega
  go_wp2_with fail
  have C := spec_RatOk _ g.square _ w3 (Agg.below HQ.out (by (repeat (first | (with_reducible exact Below.refl _ _) | ((with_reducible refine Below.set ?_ ?_ _); rotate_left; (simp <;> omega)) | (with_reducible refine Below.box_ ?_ _) | (with_reducible refine Below.next ?_ (by assumption))))))
  rw [S.out] at C
  refine C.mono ?_
  clear C
  rintro _ w4 ⟨rfl, hb4⟩
  obtain ⟨hc_w4, hf_w4⟩ := bcell hb4
  have hz0_w4 : w.heap.size < w4.heap.size := by have := hb4.size; (try simp at this); omega
  have hz1_w4 : w.heap.size + 1 < w4.heap.size := by have := hb4.size; (try simp at this); omega
  have hz2_w4 : w2.heap.size < w4.heap.size := by have := hb4.size; (try simp at this); omega
  go_wp2_with fail
  refine (spec_RatCmp _ _ s g.square _ _ _ (Agg.below HS.out (by (repeat (first | (with_reducible exact Below.refl _ _) | ((with_reducible refine Below.set ?_ ?_ _); rotate_left; (simp <;> omega)) | (with_reducible refine Below.box_ ?_ _) | (with_reducible refine Below.next ?_ (by assumption)))))) (Agg.below HQ.out (by (repeat (first | (with_reducible exact Below.refl _ _) | ((with_reducible refine Below.set ?_ ?_ _); rotate_left; (simp <;> omega)) | (with_reducible refine Below.box_ ?_ _) | (with_reducible refine Below.next ?_ (by assumption))))))).mono ?_
  rintro _ w5 ⟨rfl, hb5⟩
  go_wp2
  go_ret
  exact ⟨ret_bool E.out, by (repeat (first | (with_reducible exact Below.refl _ _) | ((with_reducible refine Below.set ?_ ?_ _); rotate_left; (simp <;> omega)) | (with_reducible refine Below.box_ ?_ _) | (with_reducible refine Below.next ?_ (by assumption))))⟩
end Go.Proofs.Ythlpjpcnpcclhaa.X
