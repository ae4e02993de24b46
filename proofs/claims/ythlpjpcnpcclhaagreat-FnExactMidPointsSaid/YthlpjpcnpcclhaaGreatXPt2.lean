/- Points: IsValidPoint, ifPoint, l05Valid; RatSign of the program. -/
import Derived.Test.YthlpjpcnpcclhaaGreatXPt1
namespace Go.Proofs.YthlpjpcnpcclhaaGreat.X
open Go.RowKit Go.XB Go.XN
attribute [local go_sem] fillBy opAt deps depOf Region.wanted yielded
attribute [local simp] deps depOf MP.eq MP.agg MP.sl Facts
set_option linter.constructorNameAsVariable false

set_option maxHeartbeats 1000000 in
theorem impl_RatSign (v : Value) (r : TRat) (b : List Nat) (w : World) (hx : Agg w v r b) :
    Calls Tryz.prog 65 #[v] w (Gives w (.int .i64 (rsign r))) := by
  have HX := hid hx
  obtain ⟨A1, n1, c1, s1, A2, n2, c2, s2, rfl, rfl, hs1, hs2⟩ := TRat.agg hx
  clear hs1 hs2 hx
  cases hok : ratOkB r
  · have E := hid (show 0 = rsign r by unfold rsign; rw [hok]; rfl)
    have OK := hid hok
    clear hok
    go_enter Tryz.func65, Tryz.ntmps65
    go_wp2_with fail
    have C := impl_RatOk _ r _ (w.alloc (.cells #[.bool r.num.neg, .slice A1 n1 c1, .slice A2 n2 c2] 43)) (HX.out.below (Below.box _))
    rw [OK.out] at C
    refine C.mono ?_
    clear C
    rintro _ w1 ⟨rfl, hb1⟩
    go_wp2
    go_ret
    exact ⟨ret_int E.out, Below.trans (Below.box _) (hb1.mono (by simp))⟩
  have E := hid (show rsignV r = rsign r by unfold rsign; rw [hok]; rfl)
  have VR := hid (ratOkB_iff.1 hok)
  have OK := hid hok
  clear hok
  go_enter Tryz.func65, Tryz.ntmps65
  go_wp2_with fail
  have C := impl_RatOk _ r _ (w.alloc (.cells #[.bool r.num.neg, .slice A1 n1 c1, .slice A2 n2 c2] 43)) (HX.out.below (Below.box _))
  rw [OK.out] at C
  refine C.mono ?_
  clear C
  rintro _ w1 ⟨rfl, hb1⟩
  obtain ⟨hc_w1, hf_w1⟩ := bcell hb1
  have hz0_w1 : w.heap.size < w1.heap.size := by have := hb1.size; (try simp at this); omega
  go_wp2_with fail
  refine (impl_sign _ r _ w1 ((HX.out.below (Below.box _)).below hb1) VR.out.mag (negOk_of VR.out.num)).mono ?_
  rintro _ w2 ⟨rfl, hb2⟩
  go_wp2
  go_ret
  exact ⟨ret_int E.out, Below.next (Below.trans (Below.box _) (hb1.mono (by simp))) hb2⟩

set_option maxHeartbeats 1000000 in
set_option maxRecDepth 10000 in
theorem impl_ifPoint (v : Value) (x : TPoint) (b : List Nat) (w : World) (hx : Agg w v x b) (h1 : (!x.x.den.isEmpty) = ratOkB x.x) (h2 : (!x.y.den.isEmpty) = ratOkB x.y) :
    Calls Tryz.prog 146 #[v] w (Gives w (bif ptOkB x then v else .agg #[.bool false, .slice none 0 0, .slice none 0 0, .bool false, .slice none 0 0, .slice none 0 0])) := by
  obtain ⟨A1, nA1, cA1, s1, A2, nA2, cA2, s2, A4, nA4, cA4, s4, A5, nA5, cA5, s5, rfl, rfl, hs1, hs2, hs4, hs5⟩ := TPoint.agg hx
  have P1 := hid (TRat.mkAgg (x := x.x) hs1 hs2); have P2 := hid (TRat.mkAgg (x := x.y) hs4 hs5)
  have D1 := hid h1; have D2 := hid h2
  clear hs1 hs2 hs4 hs5 hx h1 h2
  cases ho1 : ratOkB x.x
  · have E := hid (show ptOkB x = false by unfold ptOkB; rw [ho1]; rfl)
    have O1 := hid ho1
    clear ho1
    go_enter Tryz.func146, Tryz.ntmps146
    go_wp2_with fail
    have C := impl_isRat _ x.x _ ((w.alloc (.cells #[.bool x.x.num.neg, .slice A1 nA1 cA1, .slice A2 nA2 cA2, .bool x.y.num.neg, .slice A4 nA4 cA4, .slice A5 nA5 cA5] 57)).alloc (.cells #[.bool false, .slice none 0 0, .slice none 0 0, .bool false, .slice none 0 0, .slice none 0 0] 57)) (P1.out.below (by (repeat (first | (with_reducible exact Below.refl _ _) | ((with_reducible refine Below.set ?_ ?_ _); rotate_left; (simp <;> omega)) | (with_reducible refine Below.box_ ?_ _) | (with_reducible refine Below.next ?_ (by assumption))))))
    rw [D1.out, O1.out] at C
    refine C.mono ?_
    clear C
    rintro _ w1 ⟨rfl, hb1⟩
    obtain ⟨hc_w1, hf_w1⟩ := bcell hb1
    have hz0_w1 : w.heap.size < w1.heap.size := by have := hb1.size; (try simp at this); omega
    have hz1_w1 : w.heap.size + 1 < w1.heap.size := by have := hb1.size; (try simp at this); omega
    go_wp2
    refine bodyPost_ret (v := .agg #[.bool false, .slice none 0 0, .slice none 0 0, .bool false, .slice none 0 0, .slice none 0 0]) (by simp [results, Tryz.results146, go_sem, *]) rfl ?_
    rw [E.out]
    exact ⟨rfl, by (repeat (first | (with_reducible exact Below.refl _ _) | ((with_reducible refine Below.set ?_ ?_ _); rotate_left; (simp <;> omega)) | (with_reducible refine Below.box_ ?_ _) | (with_reducible refine Below.next ?_ (by assumption))))⟩
  have O1 := hid ho1
  cases ho2 : ratOkB x.y
  · have E := hid (show ptOkB x = false by unfold ptOkB; rw [ho1, ho2]; rfl)
    have O2 := hid ho2
    clear ho1 ho2
    go_enter Tryz.func146, Tryz.ntmps146
    go_wp2_with fail
    have C := impl_isRat _ x.x _ ((w.alloc (.cells #[.bool x.x.num.neg, .slice A1 nA1 cA1, .slice A2 nA2 cA2, .bool x.y.num.neg, .slice A4 nA4 cA4, .slice A5 nA5 cA5] 57)).alloc (.cells #[.bool false, .slice none 0 0, .slice none 0 0, .bool false, .slice none 0 0, .slice none 0 0] 57)) (P1.out.below (by (repeat (first | (with_reducible exact Below.refl _ _) | ((with_reducible refine Below.set ?_ ?_ _); rotate_left; (simp <;> omega)) | (with_reducible refine Below.box_ ?_ _) | (with_reducible refine Below.next ?_ (by assumption))))))
    rw [D1.out, O1.out] at C
    refine C.mono ?_
    clear C
    rintro _ w1 ⟨rfl, hb1⟩
    obtain ⟨hc_w1, hf_w1⟩ := bcell hb1
    have hz0_w1 : w.heap.size < w1.heap.size := by have := hb1.size; (try simp at this); omega
    have hz1_w1 : w.heap.size + 1 < w1.heap.size := by have := hb1.size; (try simp at this); omega
    go_wp2_with fail
    have C := impl_isRat _ x.y _ w1 (P2.out.below (by (repeat (first | (with_reducible exact Below.refl _ _) | ((with_reducible refine Below.set ?_ ?_ _); rotate_left; (simp <;> omega)) | (with_reducible refine Below.box_ ?_ _) | (with_reducible refine Below.next ?_ (by assumption))))))
    rw [D2.out, O2.out] at C
    refine C.mono ?_
    clear C
    rintro _ w2 ⟨rfl, hb2⟩
    obtain ⟨hc_w2, hf_w2⟩ := bcell hb2
    have hz0_w2 : w.heap.size < w2.heap.size := by have := hb2.size; (try simp at this); omega
    have hz1_w2 : w.heap.size + 1 < w2.heap.size := by have := hb2.size; (try simp at this); omega
    go_wp2
    refine bodyPost_ret (v := .agg #[.bool false, .slice none 0 0, .slice none 0 0, .bool false, .slice none 0 0, .slice none 0 0]) (by simp [results, Tryz.results146, go_sem, *]) rfl ?_
    rw [E.out]
    exact ⟨rfl, by (repeat (first | (with_reducible exact Below.refl _ _) | ((with_reducible refine Below.set ?_ ?_ _); rotate_left; (simp <;> omega)) | (with_reducible refine Below.box_ ?_ _) | (with_reducible refine Below.next ?_ (by assumption))))⟩
  have E := hid (show ptOkB x = true by unfold ptOkB; rw [ho1, ho2]; rfl)
  have O2 := hid ho2
  clear ho1 ho2
  go_enter Tryz.func146, Tryz.ntmps146
  go_wp2_with fail
  have C := impl_isRat _ x.x _ ((w.alloc (.cells #[.bool x.x.num.neg, .slice A1 nA1 cA1, .slice A2 nA2 cA2, .bool x.y.num.neg, .slice A4 nA4 cA4, .slice A5 nA5 cA5] 57)).alloc (.cells #[.bool false, .slice none 0 0, .slice none 0 0, .bool false, .slice none 0 0, .slice none 0 0] 57)) (P1.out.below (by (repeat (first | (with_reducible exact Below.refl _ _) | ((with_reducible refine Below.set ?_ ?_ _); rotate_left; (simp <;> omega)) | (with_reducible refine Below.box_ ?_ _) | (with_reducible refine Below.next ?_ (by assumption))))))
  rw [D1.out, O1.out] at C
  refine C.mono ?_
  clear C
  rintro _ w1 ⟨rfl, hb1⟩
  obtain ⟨hc_w1, hf_w1⟩ := bcell hb1
  have hz0_w1 : w.heap.size < w1.heap.size := by have := hb1.size; (try simp at this); omega
  have hz1_w1 : w.heap.size + 1 < w1.heap.size := by have := hb1.size; (try simp at this); omega
  go_wp2_with fail
  have C := impl_isRat _ x.y _ w1 (P2.out.below (by (repeat (first | (with_reducible exact Below.refl _ _) | ((with_reducible refine Below.set ?_ ?_ _); rotate_left; (simp <;> omega)) | (with_reducible refine Below.box_ ?_ _) | (with_reducible refine Below.next ?_ (by assumption))))))
  rw [D2.out, O2.out] at C
  refine C.mono ?_
  clear C
  rintro _ w2 ⟨rfl, hb2⟩
  obtain ⟨hc_w2, hf_w2⟩ := bcell hb2
  have hz0_w2 : w.heap.size < w2.heap.size := by have := hb2.size; (try simp at this); omega
  have hz1_w2 : w.heap.size + 1 < w2.heap.size := by have := hb2.size; (try simp at this); omega
  go_wp2
  refine bodyPost_ret (v := .agg #[.bool x.x.num.neg, .slice A1 nA1 cA1, .slice A2 nA2 cA2, .bool x.y.num.neg, .slice A4 nA4 cA4, .slice A5 nA5 cA5]) (by simp [results, Tryz.results146, go_sem, *]) rfl ?_
  rw [E.out]
  exact ⟨rfl, by (repeat (first | (with_reducible exact Below.refl _ _) | ((with_reducible refine Below.set ?_ ?_ _); rotate_left; (simp <;> omega)) | (with_reducible refine Below.box_ ?_ _) | (with_reducible refine Below.next ?_ (by assumption))))⟩

set_option maxHeartbeats 1000000 in
set_option maxRecDepth 10000 in
theorem spec_IsValidPoint (v : Value) (x : TPoint) (b : List Nat) (w : World) (hx : Agg w v x b) :
    Calls Tryz.prog 28 #[v] w (Gives w (.bool (ptOkB x))) := by
  obtain ⟨A1, nA1, cA1, s1, A2, nA2, cA2, s2, A4, nA4, cA4, s4, A5, nA5, cA5, s5, rfl, rfl, hs1, hs2, hs4, hs5⟩ := TPoint.agg hx
  have P1 := hid (TRat.mkAgg (x := x.x) hs1 hs2); have P2 := hid (TRat.mkAgg (x := x.y) hs4 hs5)
  clear hs1 hs2 hs4 hs5 hx
  cases ho1 : ratOkB x.x
  · have E := hid (show false = ptOkB x by unfold ptOkB; rw [ho1]; rfl)
    have O1 := hid ho1
    clear ho1
    go_enter Tryz.func28, Tryz.ntmps28
    go_wp2_with fail
    have C := spec_RatOk _ x.x _ (w.alloc (.cells #[.bool x.x.num.neg, .slice A1 nA1 cA1, .slice A2 nA2 cA2, .bool x.y.num.neg, .slice A4 nA4 cA4, .slice A5 nA5 cA5] 57)) (P1.out.below (by (repeat (first | (with_reducible exact Below.refl _ _) | ((with_reducible refine Below.set ?_ ?_ _); rotate_left; (simp <;> omega)) | (with_reducible refine Below.box_ ?_ _) | (with_reducible refine Below.next ?_ (by assumption))))))
    rw [O1.out] at C
    refine C.mono ?_
    clear C
    rintro _ w1 ⟨rfl, hb1⟩
    obtain ⟨hc_w1, hf_w1⟩ := bcell hb1
    have hz0_w1 : w.heap.size < w1.heap.size := by have := hb1.size; (try simp at this); omega
    go_wp2
    go_ret
    exact ⟨ret_bool E.out, by (repeat (first | (with_reducible exact Below.refl _ _) | ((with_reducible refine Below.set ?_ ?_ _); rotate_left; (simp <;> omega)) | (with_reducible refine Below.box_ ?_ _) | (with_reducible refine Below.next ?_ (by assumption))))⟩
  have E := hid (show ratOkB x.y = ptOkB x by unfold ptOkB; rw [ho1]; rfl)
  have O1 := hid ho1
  clear ho1
  go_enter Tryz.func28, Tryz.ntmps28
  go_wp2_with fail
  have C := spec_RatOk _ x.x _ (w.alloc (.cells #[.bool x.x.num.neg, .slice A1 nA1 cA1, .slice A2 nA2 cA2, .bool x.y.num.neg, .slice A4 nA4 cA4, .slice A5 nA5 cA5] 57)) (P1.out.below (by (repeat (first | (with_reducible exact Below.refl _ _) | ((with_reducible refine Below.set ?_ ?_ _); rotate_left; (simp <;> omega)) | (with_reducible refine Below.box_ ?_ _) | (with_reducible refine Below.next ?_ (by assumption))))))
  rw [O1.out] at C
  refine C.mono ?_
  clear C
  rintro _ w1 ⟨rfl, hb1⟩
  obtain ⟨hc_w1, hf_w1⟩ := bcell hb1
  have hz0_w1 : w.heap.size < w1.heap.size := by have := hb1.size; (try simp at this); omega
  go_wp2_with fail
  have C := spec_RatOk _ x.y _ w1 (P2.out.below (by (repeat (first | (with_reducible exact Below.refl _ _) | ((with_reducible refine Below.set ?_ ?_ _); rotate_left; (simp <;> omega)) | (with_reducible refine Below.box_ ?_ _) | (with_reducible refine Below.next ?_ (by assumption))))))
  refine C.mono ?_
  clear C
  rintro _ w2 ⟨rfl, hb2⟩
  obtain ⟨hc_w2, hf_w2⟩ := bcell hb2
  have hz0_w2 : w.heap.size < w2.heap.size := by have := hb2.size; (try simp at this); omega
  go_wp2
  go_ret
  exact ⟨ret_bool E.out, by (repeat (first | (with_reducible exact Below.refl _ _) | ((with_reducible refine Below.set ?_ ?_ _); rotate_left; (simp <;> omega)) | (with_reducible refine Below.box_ ?_ _) | (with_reducible refine Below.next ?_ (by assumption))))⟩

set_option maxHeartbeats 1000000 in
set_option maxRecDepth 10000 in
theorem impl_IsValidPoint (v : Value) (x : TPoint) (b : List Nat) (w : World) (hx : Agg w v x b) :
    Calls Tryz.prog 64 #[v] w (Gives w (.bool (ptOkB x))) := by
  obtain ⟨A1, nA1, cA1, s1, A2, nA2, cA2, s2, A4, nA4, cA4, s4, A5, nA5, cA5, s5, rfl, rfl, hs1, hs2, hs4, hs5⟩ := TPoint.agg hx
  have P1 := hid (TRat.mkAgg (x := x.x) hs1 hs2); have P2 := hid (TRat.mkAgg (x := x.y) hs4 hs5)
  clear hs1 hs2 hs4 hs5 hx
  have E := hid (show (ratOkB x.x && ratOkB x.y) = ptOkB x from rfl)
  go_enter Tryz.func64, Tryz.ntmps64
  go_wp2_with fail
  have C := impl_areRats (some ⟨w.heap.size + 1, 0, none⟩) 2 2 [x.x, x.y] _ ((w.alloc (.cells #[.bool x.x.num.neg, .slice A1 nA1 cA1, .slice A2 nA2 cA2, .bool x.y.num.neg, .slice A4 nA4 cA4, .slice A5 nA5 cA5] 57)).alloc (.cells #[.bool x.x.num.neg, .slice A1 nA1 cA1, .slice A2 nA2 cA2, .bool x.y.num.neg, .slice A4 nA4 cA4, .slice A5 nA5 cA5] 43)) (sl_two (P1.out.below (by (repeat (first | (with_reducible exact Below.refl _ _) | ((with_reducible refine Below.set ?_ ?_ _); rotate_left; (simp <;> omega)) | (with_reducible refine Below.box_ ?_ _) | (with_reducible refine Below.next ?_ (by assumption)))))) (P2.out.below (by (repeat (first | (with_reducible exact Below.refl _ _) | ((with_reducible refine Below.set ?_ ?_ _); rotate_left; (simp <;> omega)) | (with_reducible refine Below.box_ ?_ _) | (with_reducible refine Below.next ?_ (by assumption)))))) (by simp) (by go_simp) (by go_simp) (by go_simp) (by go_simp) (by go_simp) (by go_simp))
  refine C.mono ?_
  clear C
  rintro _ w1 ⟨rfl, hb1⟩
  obtain ⟨hc_w1, hf_w1⟩ := bcell hb1
  have hz0_w1 : w.heap.size < w1.heap.size := by have := hb1.size; (try simp at this); omega
  have hz1_w1 : w.heap.size + 1 < w1.heap.size := by have := hb1.size; (try simp at this); omega
  go_wp2
  go_ret
  exact ⟨ret_bool E.out, by (repeat (first | (with_reducible exact Below.refl _ _) | ((with_reducible refine Below.set ?_ ?_ _); rotate_left; (simp <;> omega)) | (with_reducible refine Below.box_ ?_ _) | (with_reducible refine Below.next ?_ (by assumption))))⟩

set_option maxHeartbeats 1000000 in
set_option maxRecDepth 10000 in
theorem spec_l05Valid (v : Value) (x : TPoint) (b : List Nat) (w : World) (hx : Agg w v x b) :
    Calls Tryz.prog 99 #[v] w (Gives w (bif ptOkB x then v else .agg #[.bool false, .slice none 0 0, .slice none 0 0, .bool false, .slice none 0 0, .slice none 0 0])) := by
  have HX := hid hx
  obtain ⟨A1, nA1, cA1, s1, A2, nA2, cA2, s2, A4, nA4, cA4, s4, A5, nA5, cA5, s5, rfl, rfl, hs1, hs2, hs4, hs5⟩ := TPoint.agg hx
  clear hs1 hs2 hs4 hs5 hx
  cases ho : ptOkB x
  · have E := hid ho
    clear ho
    go_enter Tryz.func99, Tryz.ntmps99
    go_wp2_with fail
    have C := spec_IsValidPoint _ x _ ((w.alloc (.cells #[.bool x.x.num.neg, .slice A1 nA1 cA1, .slice A2 nA2 cA2, .bool x.y.num.neg, .slice A4 nA4 cA4, .slice A5 nA5 cA5] 57)).alloc (.cells #[.bool false, .slice none 0 0, .slice none 0 0, .bool false, .slice none 0 0, .slice none 0 0] 57)) (HX.out.below (by (repeat (first | (with_reducible exact Below.refl _ _) | ((with_reducible refine Below.set ?_ ?_ _); rotate_left; (simp <;> omega)) | (with_reducible refine Below.box_ ?_ _) | (with_reducible refine Below.next ?_ (by assumption))))))
    rw [E.out] at C
    refine C.mono ?_
    clear C
    rintro _ w1 ⟨rfl, hb1⟩
    obtain ⟨hc_w1, hf_w1⟩ := bcell hb1
    have hz0_w1 : w.heap.size < w1.heap.size := by have := hb1.size; (try simp at this); omega
    have hz1_w1 : w.heap.size + 1 < w1.heap.size := by have := hb1.size; (try simp at this); omega
    go_wp2
    refine bodyPost_ret (v := .agg #[.bool false, .slice none 0 0, .slice none 0 0, .bool false, .slice none 0 0, .slice none 0 0]) (by simp [results, Tryz.results99, go_sem, *]) rfl ?_
    exact ⟨rfl, by (repeat (first | (with_reducible exact Below.refl _ _) | ((with_reducible refine Below.set ?_ ?_ _); rotate_left; (simp <;> omega)) | (with_reducible refine Below.box_ ?_ _) | (with_reducible refine Below.next ?_ (by assumption))))⟩
  have E := hid ho
  clear ho
  go_enter Tryz.func99, Tryz.ntmps99
  go_wp2_with fail
  have C := spec_IsValidPoint _ x _ ((w.alloc (.cells #[.bool x.x.num.neg, .slice A1 nA1 cA1, .slice A2 nA2 cA2, .bool x.y.num.neg, .slice A4 nA4 cA4, .slice A5 nA5 cA5] 57)).alloc (.cells #[.bool false, .slice none 0 0, .slice none 0 0, .bool false, .slice none 0 0, .slice none 0 0] 57)) (HX.out.below (by (repeat (first | (with_reducible exact Below.refl _ _) | ((with_reducible refine Below.set ?_ ?_ _); rotate_left; (simp <;> omega)) | (with_reducible refine Below.box_ ?_ _) | (with_reducible refine Below.next ?_ (by assumption))))))
  rw [E.out] at C
  refine C.mono ?_
  clear C
  rintro _ w1 ⟨rfl, hb1⟩
  obtain ⟨hc_w1, hf_w1⟩ := bcell hb1
  have hz0_w1 : w.heap.size < w1.heap.size := by have := hb1.size; (try simp at this); omega
  have hz1_w1 : w.heap.size + 1 < w1.heap.size := by have := hb1.size; (try simp at this); omega
  go_wp2
  refine bodyPost_ret (v := .agg #[.bool x.x.num.neg, .slice A1 nA1 cA1, .slice A2 nA2 cA2, .bool x.y.num.neg, .slice A4 nA4 cA4, .slice A5 nA5 cA5]) (by simp [results, Tryz.results99, go_sem, *]) rfl ?_
  exact ⟨rfl, by (repeat (first | (with_reducible exact Below.refl _ _) | ((with_reducible refine Below.set ?_ ?_ _); rotate_left; (simp <;> omega)) | (with_reducible refine Below.box_ ?_ _) | (with_reducible refine Below.next ?_ (by assumption))))⟩
end Go.Proofs.YthlpjpcnpcclhaaGreat.X
