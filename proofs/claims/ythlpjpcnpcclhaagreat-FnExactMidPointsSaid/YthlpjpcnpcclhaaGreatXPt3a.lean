/- Points: sums, differences, multiples, of the program. -/
import Derived.Test.YthlpjpcnpcclhaaGreatXPt2
namespace Go.Proofs.YthlpjpcnpcclhaaGreat.X
open Go.RowKit Go.XB Go.XN
attribute [local go_sem] fillBy opAt deps depOf Region.wanted yielded
attribute [local simp] deps depOf MP.eq MP.agg MP.sl Facts
set_option linter.constructorNameAsVariable false

set_option maxHeartbeats 2000000 in
set_option maxRecDepth 10000 in
theorem impl_AddPoints (v1 v2 : Value) (p q : TPoint) (b1 b2 : List Nat) (w : World) (hx : Agg w v1 p b1) (hy : Agg w v2 q b2) :
    Calls Tryz.prog 106 #[v1, v2] w (GivesAgg w (padd p q)) := by
  obtain ⟨A1, nA1, cA1, s1, A2, nA2, cA2, s2, A4, nA4, cA4, s4, A5, nA5, cA5, s5, rfl, rfl, hs1, hs2, hs4, hs5⟩ := TPoint.agg hx
  obtain ⟨B1, nB1, cB1, t1, B2, nB2, cB2, t2, B4, nB4, cB4, t4, B5, nB5, cB5, t5, rfl, rfl, ht1, ht2, ht4, ht5⟩ := TPoint.agg hy
  have P1 := hid (TRat.mkAgg (x := p.x) hs1 hs2); have P2 := hid (TRat.mkAgg (x := p.y) hs4 hs5)
  have Q1 := hid (TRat.mkAgg (x := q.x) ht1 ht2); have Q2 := hid (TRat.mkAgg (x := q.y) ht4 ht5)
  clear hs1 hs2 hs4 hs5 ht1 ht2 ht4 ht5 hx hy
  have E := hid (show padd p q = ifP (⟨radd p.x q.x, radd p.y q.y⟩ : TPoint) from rfl)
  go_enter Tryz.func106, Tryz.ntmps106
  go_wp2_with fail
  refine wp_region_line 10 (by kernel_rfl) (by kernel_rfl) (by kernel_rfl) (by kernel_rfl) (by kernel_rfl) ?_
  simp only [List.take_succ_cons, List.take_zero, List.drop_succ_cons, List.drop_zero]
  iterate 4
    apply walkM_eq
    case h =>
      intro yq zq wq hC hd
      obtain ⟨hcq, hfq⟩ := bcell hC
      simp at hd
      refine ⟨by go_simp; done, ?_⟩
      go_simp
      first | (go_ints; exact rfl) | (go_ints; rw [if_pos (by omega)]; try exact rfl) | exact rfl | (rw [if_pos (by omega)]; try exact rfl)
  refine walkM_call (MP.agg (radd p.x q.x)) ?_ ?_
  · intro yq zq wq hC hd
    obtain ⟨hcq, hfq⟩ := bcell hC
    simp at hd
    refine ⟨by go_simp; done, ?_⟩
    apply Exists.intro
    apply Exists.intro
    constructor
    · go_simp
      exact ⟨rfl, rfl⟩
    · exact gives_agg (impl_RatAdd _ _ p.x q.x _ _ wq (P1.out.below (by (repeat (first | (with_reducible exact Below.refl _ _) | ((with_reducible refine Below.set ?_ ?_ _); rotate_left; (simp <;> omega)) | (with_reducible refine Below.box_ ?_ _) | (with_reducible refine Below.next ?_ (by assumption)))))) (Q1.out.below (by (repeat (first | (with_reducible exact Below.refl _ _) | ((with_reducible refine Below.set ?_ ?_ _); rotate_left; (simp <;> omega)) | (with_reducible refine Below.box_ ?_ _) | (with_reducible refine Below.next ?_ (by assumption)))))))
  iterate 4
    apply walkM_eq
    case h =>
      intro yq zq wq hC hd
      obtain ⟨hcq, hfq⟩ := bcell hC
      simp at hd
      refine ⟨by go_simp; done, ?_⟩
      go_simp
      first | (go_ints; exact rfl) | (go_ints; rw [if_pos (by omega)]; try exact rfl) | exact rfl | (rw [if_pos (by omega)]; try exact rfl)
  refine walkM_call (MP.agg (radd p.y q.y)) ?_ ?_
  · intro yq zq wq hC hd
    obtain ⟨hcq, hfq⟩ := bcell hC
    simp at hd
    refine ⟨by go_simp; done, ?_⟩
    apply Exists.intro
    apply Exists.intro
    constructor
    · go_simp
      exact ⟨rfl, rfl⟩
    · exact gives_agg (impl_RatAdd _ _ p.y q.y _ _ wq (P2.out.below (by (repeat (first | (with_reducible exact Below.refl _ _) | ((with_reducible refine Below.set ?_ ?_ _); rotate_left; (simp <;> omega)) | (with_reducible refine Below.box_ ?_ _) | (with_reducible refine Below.next ?_ (by assumption)))))) (Q2.out.below (by (repeat (first | (with_reducible exact Below.refl _ _) | ((with_reducible refine Below.set ?_ ?_ _); rotate_left; (simp <;> omega)) | (with_reducible refine Below.box_ ?_ _) | (with_reducible refine Below.next ?_ (by assumption)))))))
  intro yq zq wa hC hd hdis0
  have hdis := hid hdis0
  clear hdis0
  simp at hd
  have q4 := hd.2.2.2.2.1
  have q9 := hd.2.2.2.2.2.2.2.2.2
  obtain ⟨⟨ha4, hf4⟩, hr4⟩ := q4
  obtain ⟨⟨ha9, hf9⟩, hr9⟩ := q9
  obtain ⟨D1, nD1, cD1, d1, D2, nD2, cD2, d2, e4, z4, _, _⟩ := TRat.agg ha4
  obtain ⟨D4, nD4, cD4, d4, D5, nD5, cD5, d5, e9, z9, _, _⟩ := TRat.agg ha9
  rw [e4] at ha4
  rw [e9] at ha9
  have HA := hid (pt_join (x := (⟨radd p.x q.x, radd p.y q.y⟩ : TPoint)) ha4 ha9)
  have HF := hid (Free.join hf4 hf9 (hdis.out 4 9 (by decide) (by decide) (by decide)))
  have HR := hid (show ∀ b ∈ zq 4 ++ zq 9, w.heap.size + 3 ≤ b from fun b hb => by
    rcases List.mem_append.1 hb with h | h
    · have := (hr4 b h).1; (try simp at this); omega
    · have := (hr9 b h).1; (try simp at this); omega)
  clear hd hdis ha4 hf4 hr4 ha9 hf9 hr9 z4 z9
  generalize zq 4 ++ zq 9 = zs at *
  obtain ⟨hc_wa, hf_wa⟩ := bcell hC
  have hz0_wa : w.heap.size < wa.heap.size := by have := hC.size; (try simp at this); omega
  have hz1_wa : w.heap.size + 1 < wa.heap.size := by have := hC.size; (try simp at this); omega
  have hz2_wa : w.heap.size + 1 + 1 < wa.heap.size := by have := hC.size; (try simp at this); omega
  go_wp2_with fail
  have C := impl_ifPoint _ (⟨radd p.x q.x, radd p.y q.y⟩ : TPoint) _ wa HA.out (radd_den _ _) (radd_den _ _)
  cases ho : ptOkB (⟨radd p.x q.x, radd p.y q.y⟩ : TPoint)
  · have O := hid ho
    rw [ho] at C
    clear ho
    refine C.mono ?_
    clear C
    rintro _ wb ⟨rfl, hb⟩
    obtain ⟨hc_wb, hf_wb⟩ := bcell hb
    have hz0_wb : w.heap.size < wb.heap.size := by have := hb.size; (try simp at this); omega
    have hz1_wb : w.heap.size + 1 < wb.heap.size := by have := hb.size; (try simp at this); omega
    have hz2_wb : w.heap.size + 1 + 1 < wb.heap.size := by have := hb.size; (try simp at this); omega
    go_wp2
    refine bodyPost_ret (v := .agg #[.bool false, .slice none 0 0, .slice none 0 0, .bool false, .slice none 0 0, .slice none 0 0]) (by simp [results, Tryz.results106, go_sem, *]) rfl ?_
    rw [E.out]
    unfold ifP
    rw [O.out]
    exact gives_zeroP (by (repeat (first | (with_reducible exact Below.refl _ _) | ((with_reducible refine Below.set ?_ ?_ _); rotate_left; (simp <;> omega)) | (with_reducible refine Below.box_ ?_ _) | (with_reducible refine Below.next ?_ (by assumption)))))
  · have O := hid ho
    rw [ho] at C
    clear ho
    refine C.mono ?_
    clear C
    rintro _ wb ⟨rfl, hb⟩
    obtain ⟨hc_wb, hf_wb⟩ := bcell hb
    have hz0_wb : w.heap.size < wb.heap.size := by have := hb.size; (try simp at this); omega
    have hz1_wb : w.heap.size + 1 < wb.heap.size := by have := hb.size; (try simp at this); omega
    have hz2_wb : w.heap.size + 1 + 1 < wb.heap.size := by have := hb.size; (try simp at this); omega
    go_wp2
    refine bodyPost_ret (v := .agg #[.bool (radd p.x q.x).num.neg, .slice D1 nD1 cD1, .slice D2 nD2 cD2, .bool (radd p.y q.y).num.neg, .slice D4 nD4 cD4, .slice D5 nD5 cD5]) (by simp [results, Tryz.results106, go_sem, *]) rfl ?_
    rw [E.out]
    unfold ifP
    rw [O.out]
    refine agg_fin (lo := w.heap.size + 3) HA.out HF.out HR.out (by omega) ?_ ?_
    · (repeat (first | (with_reducible exact Above.refl _ _) | ((with_reducible refine Above.set ?_ ?_ _); rotate_left; (simp <;> omega)) | (with_reducible refine Above.box ?_ _) | (with_reducible refine Above.below ?_ (by assumption))))
    · (repeat (first | (with_reducible exact Below.refl _ _) | ((with_reducible refine Below.set ?_ ?_ _); rotate_left; (simp <;> omega)) | (with_reducible refine Below.box_ ?_ _) | (with_reducible refine Below.next ?_ (by assumption))))

set_option maxHeartbeats 2000000 in
set_option maxRecDepth 10000 in
theorem impl_SubtractPoints (v1 v2 : Value) (p q : TPoint) (b1 b2 : List Nat) (w : World) (hx : Agg w v1 p b1) (hy : Agg w v2 q b2) :
    Calls Tryz.prog 104 #[v1, v2] w (GivesAgg w (psub p q)) := by
  obtain ⟨A1, nA1, cA1, s1, A2, nA2, cA2, s2, A4, nA4, cA4, s4, A5, nA5, cA5, s5, rfl, rfl, hs1, hs2, hs4, hs5⟩ := TPoint.agg hx
  obtain ⟨B1, nB1, cB1, t1, B2, nB2, cB2, t2, B4, nB4, cB4, t4, B5, nB5, cB5, t5, rfl, rfl, ht1, ht2, ht4, ht5⟩ := TPoint.agg hy
  have P1 := hid (TRat.mkAgg (x := p.x) hs1 hs2); have P2 := hid (TRat.mkAgg (x := p.y) hs4 hs5)
  have Q1 := hid (TRat.mkAgg (x := q.x) ht1 ht2); have Q2 := hid (TRat.mkAgg (x := q.y) ht4 ht5)
  clear hs1 hs2 hs4 hs5 ht1 ht2 ht4 ht5 hx hy
  have E := hid (show psub p q = ifP (⟨rsub p.x q.x, rsub p.y q.y⟩ : TPoint) from rfl)
  go_enter Tryz.func104, Tryz.ntmps104
  go_wp2_with fail
  refine wp_region_line 10 (by kernel_rfl) (by kernel_rfl) (by kernel_rfl) (by kernel_rfl) (by kernel_rfl) ?_
  simp only [List.take_succ_cons, List.take_zero, List.drop_succ_cons, List.drop_zero]
  iterate 4
    apply walkM_eq
    case h =>
      intro yq zq wq hC hd
      obtain ⟨hcq, hfq⟩ := bcell hC
      simp at hd
      refine ⟨by go_simp; done, ?_⟩
      go_simp
      first | (go_ints; exact rfl) | (go_ints; rw [if_pos (by omega)]; try exact rfl) | exact rfl | (rw [if_pos (by omega)]; try exact rfl)
  refine walkM_call (MP.agg (rsub p.x q.x)) ?_ ?_
  · intro yq zq wq hC hd
    obtain ⟨hcq, hfq⟩ := bcell hC
    simp at hd
    refine ⟨by go_simp; done, ?_⟩
    apply Exists.intro
    apply Exists.intro
    constructor
    · go_simp
      exact ⟨rfl, rfl⟩
    · exact gives_agg (impl_RatSub _ _ p.x q.x _ _ wq (P1.out.below (by (repeat (first | (with_reducible exact Below.refl _ _) | ((with_reducible refine Below.set ?_ ?_ _); rotate_left; (simp <;> omega)) | (with_reducible refine Below.box_ ?_ _) | (with_reducible refine Below.next ?_ (by assumption)))))) (Q1.out.below (by (repeat (first | (with_reducible exact Below.refl _ _) | ((with_reducible refine Below.set ?_ ?_ _); rotate_left; (simp <;> omega)) | (with_reducible refine Below.box_ ?_ _) | (with_reducible refine Below.next ?_ (by assumption)))))))
  iterate 4
    apply walkM_eq
    case h =>
      intro yq zq wq hC hd
      obtain ⟨hcq, hfq⟩ := bcell hC
      simp at hd
      refine ⟨by go_simp; done, ?_⟩
      go_simp
      first | (go_ints; exact rfl) | (go_ints; rw [if_pos (by omega)]; try exact rfl) | exact rfl | (rw [if_pos (by omega)]; try exact rfl)
  refine walkM_call (MP.agg (rsub p.y q.y)) ?_ ?_
  · intro yq zq wq hC hd
    obtain ⟨hcq, hfq⟩ := bcell hC
    simp at hd
    refine ⟨by go_simp; done, ?_⟩
    apply Exists.intro
    apply Exists.intro
    constructor
    · go_simp
      exact ⟨rfl, rfl⟩
    · exact gives_agg (impl_RatSub _ _ p.y q.y _ _ wq (P2.out.below (by (repeat (first | (with_reducible exact Below.refl _ _) | ((with_reducible refine Below.set ?_ ?_ _); rotate_left; (simp <;> omega)) | (with_reducible refine Below.box_ ?_ _) | (with_reducible refine Below.next ?_ (by assumption)))))) (Q2.out.below (by (repeat (first | (with_reducible exact Below.refl _ _) | ((with_reducible refine Below.set ?_ ?_ _); rotate_left; (simp <;> omega)) | (with_reducible refine Below.box_ ?_ _) | (with_reducible refine Below.next ?_ (by assumption)))))))
  intro yq zq wa hC hd hdis0
  have hdis := hid hdis0
  clear hdis0
  simp at hd
  have q4 := hd.2.2.2.2.1
  have q9 := hd.2.2.2.2.2.2.2.2.2
  obtain ⟨⟨ha4, hf4⟩, hr4⟩ := q4
  obtain ⟨⟨ha9, hf9⟩, hr9⟩ := q9
  obtain ⟨D1, nD1, cD1, d1, D2, nD2, cD2, d2, e4, z4, _, _⟩ := TRat.agg ha4
  obtain ⟨D4, nD4, cD4, d4, D5, nD5, cD5, d5, e9, z9, _, _⟩ := TRat.agg ha9
  rw [e4] at ha4
  rw [e9] at ha9
  have HA := hid (pt_join (x := (⟨rsub p.x q.x, rsub p.y q.y⟩ : TPoint)) ha4 ha9)
  have HF := hid (Free.join hf4 hf9 (hdis.out 4 9 (by decide) (by decide) (by decide)))
  have HR := hid (show ∀ b ∈ zq 4 ++ zq 9, w.heap.size + 3 ≤ b from fun b hb => by
    rcases List.mem_append.1 hb with h | h
    · have := (hr4 b h).1; (try simp at this); omega
    · have := (hr9 b h).1; (try simp at this); omega)
  clear hd hdis ha4 hf4 hr4 ha9 hf9 hr9 z4 z9
  generalize zq 4 ++ zq 9 = zs at *
  obtain ⟨hc_wa, hf_wa⟩ := bcell hC
  have hz0_wa : w.heap.size < wa.heap.size := by have := hC.size; (try simp at this); omega
  have hz1_wa : w.heap.size + 1 < wa.heap.size := by have := hC.size; (try simp at this); omega
  have hz2_wa : w.heap.size + 1 + 1 < wa.heap.size := by have := hC.size; (try simp at this); omega
  go_wp2_with fail
  have C := impl_ifPoint _ (⟨rsub p.x q.x, rsub p.y q.y⟩ : TPoint) _ wa HA.out (rsub_den _ _) (rsub_den _ _)
  cases ho : ptOkB (⟨rsub p.x q.x, rsub p.y q.y⟩ : TPoint)
  · have O := hid ho
    rw [ho] at C
    clear ho
    refine C.mono ?_
    clear C
    rintro _ wb ⟨rfl, hb⟩
    obtain ⟨hc_wb, hf_wb⟩ := bcell hb
    have hz0_wb : w.heap.size < wb.heap.size := by have := hb.size; (try simp at this); omega
    have hz1_wb : w.heap.size + 1 < wb.heap.size := by have := hb.size; (try simp at this); omega
    have hz2_wb : w.heap.size + 1 + 1 < wb.heap.size := by have := hb.size; (try simp at this); omega
    go_wp2
    refine bodyPost_ret (v := .agg #[.bool false, .slice none 0 0, .slice none 0 0, .bool false, .slice none 0 0, .slice none 0 0]) (by simp [results, Tryz.results104, go_sem, *]) rfl ?_
    rw [E.out]
    unfold ifP
    rw [O.out]
    exact gives_zeroP (by (repeat (first | (with_reducible exact Below.refl _ _) | ((with_reducible refine Below.set ?_ ?_ _); rotate_left; (simp <;> omega)) | (with_reducible refine Below.box_ ?_ _) | (with_reducible refine Below.next ?_ (by assumption)))))
  · have O := hid ho
    rw [ho] at C
    clear ho
    refine C.mono ?_
    clear C
    rintro _ wb ⟨rfl, hb⟩
    obtain ⟨hc_wb, hf_wb⟩ := bcell hb
    have hz0_wb : w.heap.size < wb.heap.size := by have := hb.size; (try simp at this); omega
    have hz1_wb : w.heap.size + 1 < wb.heap.size := by have := hb.size; (try simp at this); omega
    have hz2_wb : w.heap.size + 1 + 1 < wb.heap.size := by have := hb.size; (try simp at this); omega
    go_wp2
    refine bodyPost_ret (v := .agg #[.bool (rsub p.x q.x).num.neg, .slice D1 nD1 cD1, .slice D2 nD2 cD2, .bool (rsub p.y q.y).num.neg, .slice D4 nD4 cD4, .slice D5 nD5 cD5]) (by simp [results, Tryz.results104, go_sem, *]) rfl ?_
    rw [E.out]
    unfold ifP
    rw [O.out]
    refine agg_fin (lo := w.heap.size + 3) HA.out HF.out HR.out (by omega) ?_ ?_
    · (repeat (first | (with_reducible exact Above.refl _ _) | ((with_reducible refine Above.set ?_ ?_ _); rotate_left; (simp <;> omega)) | (with_reducible refine Above.box ?_ _) | (with_reducible refine Above.below ?_ (by assumption))))
    · (repeat (first | (with_reducible exact Below.refl _ _) | ((with_reducible refine Below.set ?_ ?_ _); rotate_left; (simp <;> omega)) | (with_reducible refine Below.box_ ?_ _) | (with_reducible refine Below.next ?_ (by assumption))))

set_option maxHeartbeats 2000000 in
set_option maxRecDepth 10000 in
theorem impl_ScalePoint (v1 v2 : Value) (r : TRat) (p : TPoint) (b1 b2 : List Nat) (w : World) (hx : Agg w v1 r b1) (hy : Agg w v2 p b2) :
    Calls Tryz.prog 105 #[v1, v2] w (GivesAgg w (pscale r p)) := by
  have R1 := hid hx
  obtain ⟨A1, nA1, cA1, s1, A2, nA2, cA2, s2, rfl, rfl, hs1, hs2⟩ := TRat.agg hx
  obtain ⟨B1, nB1, cB1, t1, B2, nB2, cB2, t2, B4, nB4, cB4, t4, B5, nB5, cB5, t5, rfl, rfl, ht1, ht2, ht4, ht5⟩ := TPoint.agg hy
  have Q1 := hid (TRat.mkAgg (x := p.x) ht1 ht2); have Q2 := hid (TRat.mkAgg (x := p.y) ht4 ht5)
  clear hs1 hs2 ht1 ht2 ht4 ht5 hx hy
  have E := hid (show pscale r p = ifP (⟨rmul r p.x, rmul r p.y⟩ : TPoint) from rfl)
  go_enter Tryz.func105, Tryz.ntmps105
  go_wp2_with fail
  refine wp_region_line 8 (by kernel_rfl) (by kernel_rfl) (by kernel_rfl) (by kernel_rfl) (by kernel_rfl) ?_
  simp only [List.take_succ_cons, List.take_zero, List.drop_succ_cons, List.drop_zero]
  iterate 3
    apply walkM_eq
    case h =>
      intro yq zq wq hC hd
      obtain ⟨hcq, hfq⟩ := bcell hC
      simp at hd
      refine ⟨by go_simp; done, ?_⟩
      go_simp
      first | (go_ints; exact rfl) | (go_ints; rw [if_pos (by omega)]; try exact rfl) | exact rfl | (rw [if_pos (by omega)]; try exact rfl)
  refine walkM_call (MP.agg (rmul r p.x)) ?_ ?_
  · intro yq zq wq hC hd
    obtain ⟨hcq, hfq⟩ := bcell hC
    simp at hd
    refine ⟨by go_simp; done, ?_⟩
    apply Exists.intro
    apply Exists.intro
    constructor
    · go_simp
      exact ⟨rfl, rfl⟩
    · exact gives_agg (impl_RatMul _ _ r p.x _ _ wq (R1.out.below (by (repeat (first | (with_reducible exact Below.refl _ _) | ((with_reducible refine Below.set ?_ ?_ _); rotate_left; (simp <;> omega)) | (with_reducible refine Below.box_ ?_ _) | (with_reducible refine Below.next ?_ (by assumption)))))) (Q1.out.below (by (repeat (first | (with_reducible exact Below.refl _ _) | ((with_reducible refine Below.set ?_ ?_ _); rotate_left; (simp <;> omega)) | (with_reducible refine Below.box_ ?_ _) | (with_reducible refine Below.next ?_ (by assumption)))))))
  iterate 3
    apply walkM_eq
    case h =>
      intro yq zq wq hC hd
      obtain ⟨hcq, hfq⟩ := bcell hC
      simp at hd
      refine ⟨by go_simp; done, ?_⟩
      go_simp
      first | (go_ints; exact rfl) | (go_ints; rw [if_pos (by omega)]; try exact rfl) | exact rfl | (rw [if_pos (by omega)]; try exact rfl)
  refine walkM_call (MP.agg (rmul r p.y)) ?_ ?_
  · intro yq zq wq hC hd
    obtain ⟨hcq, hfq⟩ := bcell hC
    simp at hd
    refine ⟨by go_simp; done, ?_⟩
    apply Exists.intro
    apply Exists.intro
    constructor
    · go_simp
      exact ⟨rfl, rfl⟩
    · exact gives_agg (impl_RatMul _ _ r p.y _ _ wq (R1.out.below (by (repeat (first | (with_reducible exact Below.refl _ _) | ((with_reducible refine Below.set ?_ ?_ _); rotate_left; (simp <;> omega)) | (with_reducible refine Below.box_ ?_ _) | (with_reducible refine Below.next ?_ (by assumption)))))) (Q2.out.below (by (repeat (first | (with_reducible exact Below.refl _ _) | ((with_reducible refine Below.set ?_ ?_ _); rotate_left; (simp <;> omega)) | (with_reducible refine Below.box_ ?_ _) | (with_reducible refine Below.next ?_ (by assumption)))))))
  intro yq zq wa hC hd hdis0
  have hdis := hid hdis0
  clear hdis0
  simp at hd
  have q4 := hd.2.2.2.1
  have q9 := hd.2.2.2.2.2.2.2
  obtain ⟨⟨ha4, hf4⟩, hr4⟩ := q4
  obtain ⟨⟨ha9, hf9⟩, hr9⟩ := q9
  obtain ⟨D1, nD1, cD1, d1, D2, nD2, cD2, d2, e4, z4, _, _⟩ := TRat.agg ha4
  obtain ⟨D4, nD4, cD4, d4, D5, nD5, cD5, d5, e9, z9, _, _⟩ := TRat.agg ha9
  rw [e4] at ha4
  rw [e9] at ha9
  have HA := hid (pt_join (x := (⟨rmul r p.x, rmul r p.y⟩ : TPoint)) ha4 ha9)
  have HF := hid (Free.join hf4 hf9 (hdis.out 3 7 (by decide) (by decide) (by decide)))
  have HR := hid (show ∀ b ∈ zq 3 ++ zq 7, w.heap.size + 3 ≤ b from fun b hb => by
    rcases List.mem_append.1 hb with h | h
    · have := (hr4 b h).1; (try simp at this); omega
    · have := (hr9 b h).1; (try simp at this); omega)
  clear hd hdis ha4 hf4 hr4 ha9 hf9 hr9 z4 z9
  generalize zq 3 ++ zq 7 = zs at *
  obtain ⟨hc_wa, hf_wa⟩ := bcell hC
  have hz0_wa : w.heap.size < wa.heap.size := by have := hC.size; (try simp at this); omega
  have hz1_wa : w.heap.size + 1 < wa.heap.size := by have := hC.size; (try simp at this); omega
  have hz2_wa : w.heap.size + 1 + 1 < wa.heap.size := by have := hC.size; (try simp at this); omega
  go_wp2_with fail
  have C := impl_ifPoint _ (⟨rmul r p.x, rmul r p.y⟩ : TPoint) _ wa HA.out (rmul_den _ _) (rmul_den _ _)
  cases ho : ptOkB (⟨rmul r p.x, rmul r p.y⟩ : TPoint)
  · have O := hid ho
    rw [ho] at C
    clear ho
    refine C.mono ?_
    clear C
    rintro _ wb ⟨rfl, hb⟩
    obtain ⟨hc_wb, hf_wb⟩ := bcell hb
    have hz0_wb : w.heap.size < wb.heap.size := by have := hb.size; (try simp at this); omega
    have hz1_wb : w.heap.size + 1 < wb.heap.size := by have := hb.size; (try simp at this); omega
    have hz2_wb : w.heap.size + 1 + 1 < wb.heap.size := by have := hb.size; (try simp at this); omega
    go_wp2
    refine bodyPost_ret (v := .agg #[.bool false, .slice none 0 0, .slice none 0 0, .bool false, .slice none 0 0, .slice none 0 0]) (by simp [results, Tryz.results105, go_sem, *]) rfl ?_
    rw [E.out]
    unfold ifP
    rw [O.out]
    exact gives_zeroP (by (repeat (first | (with_reducible exact Below.refl _ _) | ((with_reducible refine Below.set ?_ ?_ _); rotate_left; (simp <;> omega)) | (with_reducible refine Below.box_ ?_ _) | (with_reducible refine Below.next ?_ (by assumption)))))
  · have O := hid ho
    rw [ho] at C
    clear ho
    refine C.mono ?_
    clear C
    rintro _ wb ⟨rfl, hb⟩
    obtain ⟨hc_wb, hf_wb⟩ := bcell hb
    have hz0_wb : w.heap.size < wb.heap.size := by have := hb.size; (try simp at this); omega
    have hz1_wb : w.heap.size + 1 < wb.heap.size := by have := hb.size; (try simp at this); omega
    have hz2_wb : w.heap.size + 1 + 1 < wb.heap.size := by have := hb.size; (try simp at this); omega
    go_wp2
    refine bodyPost_ret (v := .agg #[.bool (rmul r p.x).num.neg, .slice D1 nD1 cD1, .slice D2 nD2 cD2, .bool (rmul r p.y).num.neg, .slice D4 nD4 cD4, .slice D5 nD5 cD5]) (by simp [results, Tryz.results105, go_sem, *]) rfl ?_
    rw [E.out]
    unfold ifP
    rw [O.out]
    refine agg_fin (lo := w.heap.size + 3) HA.out HF.out HR.out (by omega) ?_ ?_
    · (repeat (first | (with_reducible exact Above.refl _ _) | ((with_reducible refine Above.set ?_ ?_ _); rotate_left; (simp <;> omega)) | (with_reducible refine Above.box ?_ _) | (with_reducible refine Above.below ?_ (by assumption))))
    · (repeat (first | (with_reducible exact Below.refl _ _) | ((with_reducible refine Below.set ?_ ?_ _); rotate_left; (simp <;> omega)) | (with_reducible refine Below.box_ ?_ _) | (with_reducible refine Below.next ?_ (by assumption))))

end Go.Proofs.YthlpjpcnpcclhaaGreat.X
