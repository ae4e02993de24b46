/- Points: cross products, areas, middles, of the reference. -/
import Derived.Test.YthlpjpcnpcclhaaGreatXPt3b
namespace Go.Proofs.YthlpjpcnpcclhaaGreat.X
open Go.RowKit Go.XB Go.XN
attribute [local go_sem] fillBy opAt deps depOf Region.wanted yielded
attribute [local simp] deps depOf MP.eq MP.agg MP.sl Facts
set_option linter.constructorNameAsVariable false

theorem half_val : sval ((encI 1).neg != (encI 2).neg) (encI 1).mag = 1 ∧ val (encI 2).mag = 2 := by decide
set_option maxHeartbeats 1000000 in
set_option maxRecDepth 10000 in
theorem spec_RatMake (v1 v2 : Value) (x y : TBigInt) (b1 b2 : List Nat) (w : World) (hx : Agg w v1 x b1) (hy : Agg w v2 y b2) (ox : bigOkB x = true) (oy : bigOkB y = true) (hy0 : y.mag ≠ []) :
    Calls Tryz.prog 100 #[v1, v2] w (GivesAgg w (mkR (sval (x.neg != y.neg) x.mag) (val y.mag))) := by
  have HX := hid hx; have HY := hid hy
  obtain ⟨A1, n1, c1, s1, rfl, rfl, hs1⟩ := TBigInt.agg hx
  obtain ⟨A2, n2, c2, s2, rfl, rfl, hs2⟩ := TBigInt.agg hy
  have S1 := hid hs1; have S2 := hid hs2
  have OX := hid ox; have OY := hid oy
  have C1 := hid (bigOkB_iff.1 ox).1; have C2 := hid (bigOkB_iff.1 oy).1
  have N1 := hid (show n1 ≤ 65536 by rw [← hs1.1]; have := (bigOkB_iff.1 ox).1.1; omega)
  have N2 := hid (show n2 ≤ 65536 by rw [← hs2.1]; have := (bigOkB_iff.1 oy).1.1; omega)
  have N0 := hid (show 0 < n2 by rw [← hs2.1]; exact List.length_pos_iff.2 hy0)
  clear hs1 hs2 hx hy ox oy hy0
  go_enter Tryz.func100, Tryz.ntmps100
  go_wp2_with fail
  have C := spec_BigIntOk _ x _ (((w.alloc (.cells #[.bool x.neg, .slice A1 n1 c1] 41)).alloc (.cells #[.bool y.neg, .slice A2 n2 c2] 41)).alloc (.cells #[.bool false, .slice none 0 0, .slice none 0 0] 43)) (HX.out.below (by (repeat (first | (with_reducible exact Below.refl _ _) | ((with_reducible refine Below.set ?_ ?_ _); rotate_left; (simp <;> omega)) | (with_reducible refine Below.box_ ?_ _) | (with_reducible refine Below.next ?_ (by assumption))))))
  rw [OX.out] at C
  refine C.mono ?_
  clear C
  rintro _ w1 ⟨rfl, hb1⟩
  obtain ⟨hc_w1, hf_w1⟩ := bcell hb1
  have hz0_w1 : w.heap.size < w1.heap.size := by have := hb1.size; (try simp at this); omega
  have hz1_w1 : w.heap.size + 1 < w1.heap.size := by have := hb1.size; (try simp at this); omega
  have hz2_w1 : w.heap.size + 1 + 1 < w1.heap.size := by have := hb1.size; (try simp at this); omega
  go_wp2_with fail
  have C := spec_BigIntOk _ y _ w1 (HY.out.below (by (repeat (first | (with_reducible exact Below.refl _ _) | ((with_reducible refine Below.set ?_ ?_ _); rotate_left; (simp <;> omega)) | (with_reducible refine Below.box_ ?_ _) | (with_reducible refine Below.next ?_ (by assumption))))))
  rw [OY.out] at C
  refine C.mono ?_
  clear C
  rintro _ w2 ⟨rfl, hb2⟩
  obtain ⟨hc_w2, hf_w2⟩ := bcell hb2
  have hz0_w2 : w.heap.size < w2.heap.size := by have := hb2.size; (try simp at this); omega
  have hz1_w2 : w.heap.size + 1 < w2.heap.size := by have := hb2.size; (try simp at this); omega
  have hz2_w2 : w.heap.size + 1 + 1 < w2.heap.size := by have := hb2.size; (try simp at this); omega
  go_wp2_with fail
  refine (spec_l04Low (x.neg != y.neg) A1 A2 n1 n2 c1 c2 x.mag y.mag _ _ w2 (S1.out.below (by (repeat (first | (with_reducible exact Below.refl _ _) | ((with_reducible refine Below.set ?_ ?_ _); rotate_left; (simp <;> omega)) | (with_reducible refine Below.box_ ?_ _) | (with_reducible refine Below.next ?_ (by assumption)))))) (S2.out.below (by (repeat (first | (with_reducible exact Below.refl _ _) | ((with_reducible refine Below.set ?_ ?_ _); rotate_left; (simp <;> omega)) | (with_reducible refine Below.box_ ?_ _) | (with_reducible refine Below.next ?_ (by assumption)))))) C1.out.2 C2.out.2 N0.out N1.out N2.out).mono ?_
  rintro _ wb ⟨vb, sb, rfl, hab, hob, hb⟩
  obtain ⟨D1, nD1, cD1, d1, D2, nD2, cD2, d2, rfl, hzb, _, _⟩ := TRat.agg hab
  have HA := hid hab; have HO := hid hob
  clear hab hob hzb
  obtain ⟨hc_wb, hf_wb⟩ := bcell hb
  have hz0_wb : w.heap.size < wb.heap.size := by have := hb.size; (try simp at this); omega
  have hz1_wb : w.heap.size + 1 < wb.heap.size := by have := hb.size; (try simp at this); omega
  have hz2_wb : w.heap.size + 1 + 1 < wb.heap.size := by have := hb.size; (try simp at this); omega
  go_wp2
  refine bodyPost_ret (v := .agg #[.bool (mkR (sval (x.neg != y.neg) x.mag) (val y.mag)).num.neg, .slice D1 nD1 cD1, .slice D2 nD2 cD2]) (by simp [results, Tryz.results100, go_sem, *]) rfl ?_
  refine agg_fin (lo := w.heap.size + 3) HA.out HO.out.free (fun b hb => by have := (HO.out.2 b hb).1; (try simp at this); omega) (by omega) ?_ ?_
  · (repeat (first | (with_reducible exact Above.refl _ _) | ((with_reducible refine Above.set ?_ ?_ _); rotate_left; (simp <;> omega)) | (with_reducible refine Above.box ?_ _) | (with_reducible refine Above.below ?_ (by assumption))))
  · (repeat (first | (with_reducible exact Below.refl _ _) | ((with_reducible refine Below.set ?_ ?_ _); rotate_left; (simp <;> omega)) | (with_reducible refine Below.box_ ?_ _) | (with_reducible refine Below.next ?_ (by assumption))))

set_option maxHeartbeats 1000000 in
theorem spec_half (w : World) : Calls Tryz.prog 60 #[.int .i64 1, .int .i64 2] w (GivesAgg w (mkR 1 2)) := by
  go_enter Tryz.func60, Tryz.ntmps60
  go_wp2_with fail
  refine (spec_BigIntOf 1 _ (by constructor <;> decide)).mono ?_
  rintro _ w1 ⟨v1, t1, rfl, ha1, ho1, hb1⟩
  have HA1 := hid ha1
  clear ha1 ho1
  obtain ⟨hc_w1, hf_w1⟩ := bcell hb1
  have hz0_w1 : w.heap.size < w1.heap.size := by have := hb1.size; (try simp at this); omega
  go_wp2_with fail
  refine (spec_BigIntOf 2 _ (by constructor <;> decide)).mono ?_
  rintro _ w2 ⟨v2, t2, rfl, ha2, ho2, hb2⟩
  have HA2 := hid ha2
  clear ha2 ho2
  obtain ⟨hc_w2, hf_w2⟩ := bcell hb2
  have hz0_w2 : w.heap.size < w2.heap.size := by have := hb2.size; (try simp at this); omega
  go_wp2_with fail
  have C := spec_RatMake v1 v2 (encI 1) (encI 2) t1 t2 w2 (HA1.out.below hb2) HA2.out (by decide) (by decide) (by decide)
  rw [half_val.1, half_val.2] at C
  refine (C).mono ?_
  rintro _ wb ⟨vb, sb, rfl, hab, hob, hb⟩
  obtain ⟨D1, nD1, cD1, d1, D2, nD2, cD2, d2, rfl, hzb, _, _⟩ := TRat.agg hab
  have HA := hid hab; have HO := hid hob
  clear hab hob hzb
  obtain ⟨hc_wb, hf_wb⟩ := bcell hb
  have hz0_wb : w.heap.size < wb.heap.size := by have := hb.size; (try simp at this); omega
  go_wp2
  refine bodyPost_ret (v := .agg #[.bool (mkR 1 2).num.neg, .slice D1 nD1 cD1, .slice D2 nD2 cD2]) (by simp [results, Tryz.results60, go_sem, *]) rfl ?_
  refine agg_fin (lo := w.heap.size + 1) HA.out HO.out.free (fun b hb => by have := (HO.out.2 b hb).1; (try simp at this); omega) (by omega) ?_ ?_
  · (repeat (first | (with_reducible exact Above.refl _ _) | ((with_reducible refine Above.set ?_ ?_ _); rotate_left; (simp <;> omega)) | (with_reducible refine Above.box ?_ _) | (with_reducible refine Above.below ?_ (by assumption))))
  · (repeat (first | (with_reducible exact Below.refl _ _) | ((with_reducible refine Below.set ?_ ?_ _); rotate_left; (simp <;> omega)) | (with_reducible refine Below.box_ ?_ _) | (with_reducible refine Below.next ?_ (by assumption))))

set_option maxHeartbeats 2000000 in
set_option maxRecDepth 10000 in
theorem spec_Cross (v1 v2 : Value) (p q : TPoint) (b1 b2 : List Nat) (w : World) (hx : Agg w v1 p b1) (hy : Agg w v2 q b2) :
    Calls Tryz.prog 97 #[v1, v2] w (GivesAgg w (cross p q)) := by
  have HX := hid hx; have HY := hid hy
  obtain ⟨A1, nA1, cA1, s1, A2, nA2, cA2, s2, A4, nA4, cA4, s4, A5, nA5, cA5, s5, rfl, rfl, hs1, hs2, hs4, hs5⟩ := TPoint.agg hx
  obtain ⟨B1, nB1, cB1, t1, B2, nB2, cB2, t2, B4, nB4, cB4, t4, B5, nB5, cB5, t5, rfl, rfl, ht1, ht2, ht4, ht5⟩ := TPoint.agg hy
  have P1 := hid (TRat.mkAgg (x := p.x) hs1 hs2); have P2 := hid (TRat.mkAgg (x := p.y) hs4 hs5)
  have Q1 := hid (TRat.mkAgg (x := q.x) ht1 ht2); have Q2 := hid (TRat.mkAgg (x := q.y) ht4 ht5)
  clear hs1 hs2 hs4 hs5 ht1 ht2 ht4 ht5 hx hy HX HY
  go_enter Tryz.func97, Tryz.ntmps97
  go_wp2_with fail
  refine wp_region_line 10 (by kernel_rfl) (by kernel_rfl) (by kernel_rfl) (by kernel_rfl) (by kernel_rfl) ?_
  simp only [List.take_succ_cons, List.take_zero, List.drop_succ_cons, List.drop_zero]
  iterate 4
    apply walkM_eq
    case h =>
      intro yq zq wq hC hd
      obtain ⟨hcq, hfq⟩ := bcell hC
      simp at hd
      refine ⟨by go_simp; done, ?_⟩
      go_simp
      first | (go_ints; exact rfl) | (go_ints; rw [if_pos (by omega)]; try exact rfl) | exact rfl | (rw [if_pos (by omega)]; try exact rfl)
  refine walkM_call (MP.agg (rmul p.x q.y)) ?_ ?_
  · intro yq zq wq hC hd
    obtain ⟨hcq, hfq⟩ := bcell hC
    simp at hd
    refine ⟨by go_simp; done, ?_⟩
    apply Exists.intro
    apply Exists.intro
    constructor
    · go_simp
      exact ⟨rfl, rfl⟩
    · exact gives_agg (spec_RatMul _ _ p.x q.y _ _ wq (P1.out.below (by (repeat (first | (with_reducible exact Below.refl _ _) | ((with_reducible refine Below.set ?_ ?_ _); rotate_left; (simp <;> omega)) | (with_reducible refine Below.box_ ?_ _) | (with_reducible refine Below.next ?_ (by assumption)))))) (Q2.out.below (by (repeat (first | (with_reducible exact Below.refl _ _) | ((with_reducible refine Below.set ?_ ?_ _); rotate_left; (simp <;> omega)) | (with_reducible refine Below.box_ ?_ _) | (with_reducible refine Below.next ?_ (by assumption)))))))
  iterate 4
    apply walkM_eq
    case h =>
      intro yq zq wq hC hd
      obtain ⟨hcq, hfq⟩ := bcell hC
      simp at hd
      refine ⟨by go_simp; done, ?_⟩
      go_simp
      first | (go_ints; exact rfl) | (go_ints; rw [if_pos (by omega)]; try exact rfl) | exact rfl | (rw [if_pos (by omega)]; try exact rfl)
  refine walkM_call (MP.agg (rmul p.y q.x)) ?_ ?_
  · intro yq zq wq hC hd
    obtain ⟨hcq, hfq⟩ := bcell hC
    simp at hd
    refine ⟨by go_simp; done, ?_⟩
    apply Exists.intro
    apply Exists.intro
    constructor
    · go_simp
      exact ⟨rfl, rfl⟩
    · exact gives_agg (spec_RatMul _ _ p.y q.x _ _ wq (P2.out.below (by (repeat (first | (with_reducible exact Below.refl _ _) | ((with_reducible refine Below.set ?_ ?_ _); rotate_left; (simp <;> omega)) | (with_reducible refine Below.box_ ?_ _) | (with_reducible refine Below.next ?_ (by assumption)))))) (Q1.out.below (by (repeat (first | (with_reducible exact Below.refl _ _) | ((with_reducible refine Below.set ?_ ?_ _); rotate_left; (simp <;> omega)) | (with_reducible refine Below.box_ ?_ _) | (with_reducible refine Below.next ?_ (by assumption)))))))
  intro yq zq wa hC hd hdis0
  have hdis := hid hdis0
  clear hdis0
  simp at hd
  have q4 := hd.2.2.2.2.1
  have q9 := hd.2.2.2.2.2.2.2.2.2
  have H4 := hid q4.1.1; have H9 := hid q9.1.1
  clear hd hdis q4 q9
  obtain ⟨hc_wa, hf_wa⟩ := bcell hC
  have hz0_wa : w.heap.size < wa.heap.size := by have := hC.size; (try simp at this); omega
  have hz1_wa : w.heap.size + 1 < wa.heap.size := by have := hC.size; (try simp at this); omega
  have hz2_wa : w.heap.size + 1 + 1 < wa.heap.size := by have := hC.size; (try simp at this); omega
  go_wp2_with fail
  refine (spec_RatSub _ _ (rmul p.x q.y) (rmul p.y q.x) _ _ wa H4.out H9.out).mono ?_
  rintro _ wb ⟨vb, sb, rfl, hab, hob, hb⟩
  obtain ⟨D1, nD1, cD1, d1, D2, nD2, cD2, d2, rfl, hzb, _, _⟩ := TRat.agg hab
  have HA := hid hab; have HO := hid hob
  clear hab hob hzb
  obtain ⟨hc_wb, hf_wb⟩ := bcell hb
  have hz0_wb : w.heap.size < wb.heap.size := by have := hb.size; (try simp at this); omega
  have hz1_wb : w.heap.size + 1 < wb.heap.size := by have := hb.size; (try simp at this); omega
  have hz2_wb : w.heap.size + 1 + 1 < wb.heap.size := by have := hb.size; (try simp at this); omega
  go_wp2
  refine bodyPost_ret (v := .agg #[.bool (rsub (rmul p.x q.y) (rmul p.y q.x)).num.neg, .slice D1 nD1 cD1, .slice D2 nD2 cD2]) (by simp [results, Tryz.results97, go_sem, *]) rfl ?_
  refine agg_fin (lo := w.heap.size + 3) HA.out HO.out.free (fun b hb => by have := (HO.out.2 b hb).1; (try simp at this); omega) (by omega) ?_ ?_
  · (repeat (first | (with_reducible exact Above.refl _ _) | ((with_reducible refine Above.set ?_ ?_ _); rotate_left; (simp <;> omega)) | (with_reducible refine Above.box ?_ _) | (with_reducible refine Above.below ?_ (by assumption))))
  · (repeat (first | (with_reducible exact Below.refl _ _) | ((with_reducible refine Below.set ?_ ?_ _); rotate_left; (simp <;> omega)) | (with_reducible refine Below.box_ ?_ _) | (with_reducible refine Below.next ?_ (by assumption))))

set_option maxHeartbeats 2000000 in
set_option maxRecDepth 10000 in
theorem spec_DoubleArea (v0 v1 v2 : Value) (o p q : TPoint) (b0 b1 b2 : List Nat) (w : World) (h0 : Agg w v0 o b0) (hx : Agg w v1 p b1) (hy : Agg w v2 q b2) :
    Calls Tryz.prog 57 #[v0, v1, v2] w (GivesAgg w (darea o p q)) := by
  have HO := hid h0
  obtain ⟨C1, nC1, cC1, r1, C2, nC2, cC2, r2, C4, nC4, cC4, r4, C5, nC5, cC5, r5, rfl, rfl, hr1, hr2, hr4, hr5⟩ := TPoint.agg h0
  have HX := hid hx; have HY := hid hy
  obtain ⟨A1, nA1, cA1, s1, A2, nA2, cA2, s2, A4, nA4, cA4, s4, A5, nA5, cA5, s5, rfl, rfl, hs1, hs2, hs4, hs5⟩ := TPoint.agg hx
  obtain ⟨B1, nB1, cB1, t1, B2, nB2, cB2, t2, B4, nB4, cB4, t4, B5, nB5, cB5, t5, rfl, rfl, ht1, ht2, ht4, ht5⟩ := TPoint.agg hy
  clear hr1 hr2 hr4 hr5 hs1 hs2 hs4 hs5 ht1 ht2 ht4 ht5 h0 hx hy
  go_enter Tryz.func57, Tryz.ntmps57
  go_wp2_with fail
  refine wp_region_line 6 (by kernel_rfl) (by kernel_rfl) (by kernel_rfl) (by kernel_rfl) (by kernel_rfl) ?_
  simp only [List.take_succ_cons, List.take_zero, List.drop_succ_cons, List.drop_zero]
  iterate 2
    apply walkM_eq
    case h =>
      intro yq zq wq hC hd
      obtain ⟨hcq, hfq⟩ := bcell hC
      simp at hd
      refine ⟨by go_simp; done, ?_⟩
      go_simp
      first | (go_ints; exact rfl) | (go_ints; rw [if_pos (by omega)]; try exact rfl) | exact rfl | (rw [if_pos (by omega)]; try exact rfl)
  refine walkM_call (MP.agg (psub p o)) ?_ ?_
  · intro yq zq wq hC hd
    obtain ⟨hcq, hfq⟩ := bcell hC
    simp at hd
    refine ⟨by go_simp; done, ?_⟩
    apply Exists.intro
    apply Exists.intro
    constructor
    · go_simp
      exact ⟨rfl, rfl⟩
    · exact gives_agg (spec_SubtractPoints _ _ p o _ _ wq (HX.out.below (by (repeat (first | (with_reducible exact Below.refl _ _) | ((with_reducible refine Below.set ?_ ?_ _); rotate_left; (simp <;> omega)) | (with_reducible refine Below.box_ ?_ _) | (with_reducible refine Below.next ?_ (by assumption)))))) (HO.out.below (by (repeat (first | (with_reducible exact Below.refl _ _) | ((with_reducible refine Below.set ?_ ?_ _); rotate_left; (simp <;> omega)) | (with_reducible refine Below.box_ ?_ _) | (with_reducible refine Below.next ?_ (by assumption)))))))
  iterate 2
    apply walkM_eq
    case h =>
      intro yq zq wq hC hd
      obtain ⟨hcq, hfq⟩ := bcell hC
      simp at hd
      refine ⟨by go_simp; done, ?_⟩
      go_simp
      first | (go_ints; exact rfl) | (go_ints; rw [if_pos (by omega)]; try exact rfl) | exact rfl | (rw [if_pos (by omega)]; try exact rfl)
  refine walkM_call (MP.agg (psub q o)) ?_ ?_
  · intro yq zq wq hC hd
    obtain ⟨hcq, hfq⟩ := bcell hC
    simp at hd
    refine ⟨by go_simp; done, ?_⟩
    apply Exists.intro
    apply Exists.intro
    constructor
    · go_simp
      exact ⟨rfl, rfl⟩
    · exact gives_agg (spec_SubtractPoints _ _ q o _ _ wq (HY.out.below (by (repeat (first | (with_reducible exact Below.refl _ _) | ((with_reducible refine Below.set ?_ ?_ _); rotate_left; (simp <;> omega)) | (with_reducible refine Below.box_ ?_ _) | (with_reducible refine Below.next ?_ (by assumption)))))) (HO.out.below (by (repeat (first | (with_reducible exact Below.refl _ _) | ((with_reducible refine Below.set ?_ ?_ _); rotate_left; (simp <;> omega)) | (with_reducible refine Below.box_ ?_ _) | (with_reducible refine Below.next ?_ (by assumption)))))))
  intro yq zq wa hC hd hdis0
  have hdis := hid hdis0
  clear hdis0
  simp at hd
  have q4 := hd.2.2.1
  have q9 := hd.2.2.2.2.2
  have H4 := hid q4.1.1; have H9 := hid q9.1.1
  clear hd hdis q4 q9
  obtain ⟨hc_wa, hf_wa⟩ := bcell hC
  have hz0_wa : w.heap.size < wa.heap.size := by have := hC.size; (try simp at this); omega
  have hz1_wa : w.heap.size + 1 < wa.heap.size := by have := hC.size; (try simp at this); omega
  have hz2_wa : w.heap.size + 1 + 1 < wa.heap.size := by have := hC.size; (try simp at this); omega
  have hz3_wa : w.heap.size + 1 + 1 + 1 < wa.heap.size := by have := hC.size; (try simp at this); omega
  go_wp2_with fail
  refine (spec_Cross _ _ (psub p o) (psub q o) _ _ wa H4.out H9.out).mono ?_
  rintro _ wb ⟨vb, sb, rfl, hab, hob, hb⟩
  obtain ⟨D1, nD1, cD1, d1, D2, nD2, cD2, d2, rfl, hzb, _, _⟩ := TRat.agg hab
  have HA := hid hab; have HOb := hid hob
  clear hab hob hzb
  obtain ⟨hc_wb, hf_wb⟩ := bcell hb
  have hz0_wb : w.heap.size < wb.heap.size := by have := hb.size; (try simp at this); omega
  have hz1_wb : w.heap.size + 1 < wb.heap.size := by have := hb.size; (try simp at this); omega
  have hz2_wb : w.heap.size + 1 + 1 < wb.heap.size := by have := hb.size; (try simp at this); omega
  have hz3_wb : w.heap.size + 1 + 1 + 1 < wb.heap.size := by have := hb.size; (try simp at this); omega
  go_wp2
  refine bodyPost_ret (v := .agg #[.bool (cross (psub p o) (psub q o)).num.neg, .slice D1 nD1 cD1, .slice D2 nD2 cD2]) (by simp [results, Tryz.results57, go_sem, *]) rfl ?_
  refine agg_fin (lo := w.heap.size + 4) HA.out HOb.out.free (fun b hb => by have := (HOb.out.2 b hb).1; (try simp at this); omega) (by omega) ?_ ?_
  · (repeat (first | (with_reducible exact Above.refl _ _) | ((with_reducible refine Above.set ?_ ?_ _); rotate_left; (simp <;> omega)) | (with_reducible refine Above.box ?_ _) | (with_reducible refine Above.below ?_ (by assumption))))
  · (repeat (first | (with_reducible exact Below.refl _ _) | ((with_reducible refine Below.set ?_ ?_ _); rotate_left; (simp <;> omega)) | (with_reducible refine Below.box_ ?_ _) | (with_reducible refine Below.next ?_ (by assumption))))

set_option maxHeartbeats 2000000 in
set_option maxRecDepth 10000 in
theorem spec_Middle (v1 v2 : Value) (p q : TPoint) (b1 b2 : List Nat) (w : World) (hx : Agg w v1 p b1) (hy : Agg w v2 q b2) :
    Calls Tryz.prog 27 #[v1, v2] w (GivesAgg w (pmid p q)) := by
  have HX := hid hx; have HY := hid hy
  obtain ⟨A1, nA1, cA1, s1, A2, nA2, cA2, s2, A4, nA4, cA4, s4, A5, nA5, cA5, s5, rfl, rfl, hs1, hs2, hs4, hs5⟩ := TPoint.agg hx
  obtain ⟨B1, nB1, cB1, t1, B2, nB2, cB2, t2, B4, nB4, cB4, t4, B5, nB5, cB5, t5, rfl, rfl, ht1, ht2, ht4, ht5⟩ := TPoint.agg hy
  clear hs1 hs2 hs4 hs5 ht1 ht2 ht4 ht5 hx hy
  go_enter Tryz.func27, Tryz.ntmps27
  go_wp2_with fail
  refine wp_region_line 4 (by kernel_rfl) (by kernel_rfl) (by kernel_rfl) (by kernel_rfl) (by kernel_rfl) ?_
  simp only [List.take_succ_cons, List.take_zero, List.drop_succ_cons, List.drop_zero]
  refine walkM_call (MP.agg (mkR 1 2)) ?_ ?_
  · intro yq zq wq hC hd
    obtain ⟨hcq, hfq⟩ := bcell hC
    simp at hd
    refine ⟨by go_simp; done, ?_⟩
    apply Exists.intro
    apply Exists.intro
    constructor
    · go_simp
      exact ⟨rfl, rfl⟩
    · exact gives_agg (spec_half wq)
  iterate 2
    apply walkM_eq
    case h =>
      intro yq zq wq hC hd
      obtain ⟨hcq, hfq⟩ := bcell hC
      simp at hd
      refine ⟨by go_simp; done, ?_⟩
      go_simp
      first | (go_ints; exact rfl) | (go_ints; rw [if_pos (by omega)]; try exact rfl) | exact rfl | (rw [if_pos (by omega)]; try exact rfl)
  refine walkM_call (MP.agg (padd p q)) ?_ ?_
  · intro yq zq wq hC hd
    obtain ⟨hcq, hfq⟩ := bcell hC
    simp at hd
    refine ⟨by go_simp; done, ?_⟩
    apply Exists.intro
    apply Exists.intro
    constructor
    · go_simp
      exact ⟨rfl, rfl⟩
    · exact gives_agg (spec_AddPoints _ _ p q _ _ wq (HX.out.below (by (repeat (first | (with_reducible exact Below.refl _ _) | ((with_reducible refine Below.set ?_ ?_ _); rotate_left; (simp <;> omega)) | (with_reducible refine Below.box_ ?_ _) | (with_reducible refine Below.next ?_ (by assumption)))))) (HY.out.below (by (repeat (first | (with_reducible exact Below.refl _ _) | ((with_reducible refine Below.set ?_ ?_ _); rotate_left; (simp <;> omega)) | (with_reducible refine Below.box_ ?_ _) | (with_reducible refine Below.next ?_ (by assumption)))))))
  intro yq zq wa hC hd hdis0
  have hdis := hid hdis0
  clear hdis0
  simp at hd
  have q4 := hd.1
  have q9 := hd.2.2.2
  have H4 := hid q4.1.1; have H9 := hid q9.1.1
  clear hd hdis q4 q9
  obtain ⟨hc_wa, hf_wa⟩ := bcell hC
  have hz0_wa : w.heap.size < wa.heap.size := by have := hC.size; (try simp at this); omega
  have hz1_wa : w.heap.size + 1 < wa.heap.size := by have := hC.size; (try simp at this); omega
  have hz2_wa : w.heap.size + 1 + 1 < wa.heap.size := by have := hC.size; (try simp at this); omega
  go_wp2_with fail
  refine (spec_ScalePoint _ _ (mkR 1 2) (padd p q) _ _ wa H4.out H9.out).mono ?_
  rintro _ wb ⟨vb, sb, rfl, hab, hob, hb⟩
  obtain ⟨D1, nD1, cD1, d1, D2, nD2, cD2, d2, D4, nD4, cD4, d4, D5, nD5, cD5, d5, rfl, hzb, _, _, _, _⟩ := TPoint.agg hab
  have HA := hid hab; have HO := hid hob
  clear hab hob hzb
  obtain ⟨hc_wb, hf_wb⟩ := bcell hb
  have hz0_wb : w.heap.size < wb.heap.size := by have := hb.size; (try simp at this); omega
  have hz1_wb : w.heap.size + 1 < wb.heap.size := by have := hb.size; (try simp at this); omega
  have hz2_wb : w.heap.size + 1 + 1 < wb.heap.size := by have := hb.size; (try simp at this); omega
  go_wp2
  refine bodyPost_ret (v := .agg #[.bool (pscale (mkR 1 2) (padd p q)).x.num.neg, .slice D1 nD1 cD1, .slice D2 nD2 cD2, .bool (pscale (mkR 1 2) (padd p q)).y.num.neg, .slice D4 nD4 cD4, .slice D5 nD5 cD5]) (by simp [results, Tryz.results27, go_sem, *]) rfl ?_
  refine agg_fin (lo := w.heap.size + 3) HA.out HO.out.free (fun b hb => by have := (HO.out.2 b hb).1; (try simp at this); omega) (by omega) ?_ ?_
  · (repeat (first | (with_reducible exact Above.refl _ _) | ((with_reducible refine Above.set ?_ ?_ _); rotate_left; (simp <;> omega)) | (with_reducible refine Above.box ?_ _) | (with_reducible refine Above.below ?_ (by assumption))))
  · (repeat (first | (with_reducible exact Below.refl _ _) | ((with_reducible refine Below.set ?_ ?_ _); rotate_left; (simp <;> omega)) | (with_reducible refine Below.box_ ?_ _) | (with_reducible refine Below.next ?_ (by assumption))))
end Go.Proofs.YthlpjpcnpcclhaaGreat.X
