/- The reference's operations on fractions. No condition. -/
import Derived.Test.YthlpjpcnpcclhaaGreatP9
/- The reference's fractions: RatMul, RatMin, RatMax. -/
namespace Go.Proofs.YthlpjpcnpcclhaaGreat.X
open Go.RowKit Go.XB Go.XN
attribute [local go_sem] fillBy opAt deps depOf Region.wanted yielded
attribute [local simp] deps depOf MP.eq MP.agg MP.sl Facts
set_option linter.constructorNameAsVariable false

set_option maxHeartbeats 2000000 in
set_option maxRecDepth 10000 in
theorem spec_RatMul (v1 v2 : Value) (r s : TRat) (b1 b2 : List Nat) (w : World) (hx : Agg w v1 r b1) (hy : Agg w v2 s b2) :
    Calls Tryz.prog 37 #[v1, v2] w (GivesAgg w (rmul r s)) := by
  have HX := hid hx; have HY := hid hy
  obtain ⟨A1, n1, c1, s1, A2, n2, c2, s2, rfl, rfl, hs1, hs2⟩ := TRat.agg hx
  obtain ⟨A3, n3, c3, s3, A4, n4, c4, s4, rfl, rfl, hs3, hs4⟩ := TRat.agg hy
  clear hs1 hs2 hs3 hs4 hx hy
  cases hr : ratOkB r
  · have E := hid (show rmul r s = zeroR by unfold rmul; rw [hr]; rfl)
    have R := hid hr
    clear hr
    go_enter Tryz.func37, Tryz.ntmps37
    go_wp2_with fail
    have C := spec_RatOk _ r _ (((w.alloc (.cells #[.bool r.num.neg, .slice A1 n1 c1, .slice A2 n2 c2] 43)).alloc (.cells #[.bool s.num.neg, .slice A3 n3 c3, .slice A4 n4 c4] 43)).alloc (.cells #[.bool false, .slice none 0 0, .slice none 0 0] 43)) (Agg.below HX.out (by (repeat (first | (with_reducible exact Below.refl _ _) | ((with_reducible refine Below.set ?_ ?_ _); rotate_left; (simp <;> omega)) | (with_reducible refine Below.box_ ?_ _) | (with_reducible refine Below.next ?_ (by assumption))))))
    rw [R.out] at C
    refine C.mono ?_
    clear C
    rintro _ w1 ⟨rfl, hb1⟩
    obtain ⟨hc_w1, hf_w1⟩ := bcell hb1
    have hz0_w1 : w.heap.size < w1.heap.size := by have := hb1.size; (try simp at this); omega
    have hz1_w1 : w.heap.size + 1 < w1.heap.size := by have := hb1.size; (try simp at this); omega
    have hz2_w1 : w.heap.size + 1 + 1 < w1.heap.size := by have := hb1.size; (try simp at this); omega
    go_wp2
    refine bodyPost_ret (v := .agg #[.bool false, .slice none 0 0, .slice none 0 0]) (by simp [results, Tryz.results37, go_sem, *]) rfl ?_
    rw [E.out]
    exact gives_zero (by (repeat (first | (with_reducible exact Below.refl _ _) | ((with_reducible refine Below.set ?_ ?_ _); rotate_left; (simp <;> omega)) | (with_reducible refine Below.box_ ?_ _) | (with_reducible refine Below.next ?_ (by assumption)))))
  cases hs : ratOkB s
  · have E := hid (show rmul r s = zeroR by unfold rmul; rw [hr, hs]; rfl)
    have R := hid hr; have S := hid hs
    clear hr hs
    go_enter Tryz.func37, Tryz.ntmps37
    go_wp2_with fail
    have C := spec_RatOk _ r _ (((w.alloc (.cells #[.bool r.num.neg, .slice A1 n1 c1, .slice A2 n2 c2] 43)).alloc (.cells #[.bool s.num.neg, .slice A3 n3 c3, .slice A4 n4 c4] 43)).alloc (.cells #[.bool false, .slice none 0 0, .slice none 0 0] 43)) (Agg.below HX.out (by (repeat (first | (with_reducible exact Below.refl _ _) | ((with_reducible refine Below.set ?_ ?_ _); rotate_left; (simp <;> omega)) | (with_reducible refine Below.box_ ?_ _) | (with_reducible refine Below.next ?_ (by assumption))))))
    rw [R.out] at C
    refine C.mono ?_
    clear C
    rintro _ w1 ⟨rfl, hb1⟩
    obtain ⟨hc_w1, hf_w1⟩ := bcell hb1
    have hz0_w1 : w.heap.size < w1.heap.size := by have := hb1.size; (try simp at this); omega
    have hz1_w1 : w.heap.size + 1 < w1.heap.size := by have := hb1.size; (try simp at this); omega
    have hz2_w1 : w.heap.size + 1 + 1 < w1.heap.size := by have := hb1.size; (try simp at this); omega
    go_wp2_with fail
    have C := spec_RatOk _ s _ w1 (Agg.below HY.out (by (repeat (first | (with_reducible exact Below.refl _ _) | ((with_reducible refine Below.set ?_ ?_ _); rotate_left; (simp <;> omega)) | (with_reducible refine Below.box_ ?_ _) | (with_reducible refine Below.next ?_ (by assumption))))))
    rw [S.out] at C
    refine C.mono ?_
    clear C
    rintro _ w2 ⟨rfl, hb2⟩
    obtain ⟨hc_w2, hf_w2⟩ := bcell hb2
    have hz0_w2 : w.heap.size < w2.heap.size := by have := hb2.size; (try simp at this); omega
    have hz1_w2 : w.heap.size + 1 < w2.heap.size := by have := hb2.size; (try simp at this); omega
    have hz2_w2 : w.heap.size + 1 + 1 < w2.heap.size := by have := hb2.size; (try simp at this); omega
    go_wp2
    refine bodyPost_ret (v := .agg #[.bool false, .slice none 0 0, .slice none 0 0]) (by simp [results, Tryz.results37, go_sem, *]) rfl ?_
    rw [E.out]
    exact gives_zero (by (repeat (first | (with_reducible exact Below.refl _ _) | ((with_reducible refine Below.set ?_ ?_ _); rotate_left; (simp <;> omega)) | (with_reducible refine Below.box_ ?_ _) | (with_reducible refine Below.next ?_ (by assumption)))))
  have R := hid hr; have S := hid hs
  have VR := hid (ratOkB_iff.1 hr); have VS := hid (ratOkB_iff.1 hs)
  have E := hid (show rmul r s = mkR (numv r * numv s) (denv r * denv s) by unfold rmul; rw [hr, hs]; rfl)
  clear hr hs
  go_enter Tryz.func37, Tryz.ntmps37
  go_wp2_with fail
  have C := spec_RatOk _ r _ (((w.alloc (.cells #[.bool r.num.neg, .slice A1 n1 c1, .slice A2 n2 c2] 43)).alloc (.cells #[.bool s.num.neg, .slice A3 n3 c3, .slice A4 n4 c4] 43)).alloc (.cells #[.bool false, .slice none 0 0, .slice none 0 0] 43)) (Agg.below HX.out (by (repeat (first | (with_reducible exact Below.refl _ _) | ((with_reducible refine Below.set ?_ ?_ _); rotate_left; (simp <;> omega)) | (with_reducible refine Below.box_ ?_ _) | (with_reducible refine Below.next ?_ (by assumption))))))
  rw [R.out] at C
  refine C.mono ?_
  clear C
  rintro _ w1 ⟨rfl, hb1⟩
  obtain ⟨hc_w1, hf_w1⟩ := bcell hb1
  have hz0_w1 : w.heap.size < w1.heap.size := by have := hb1.size; (try simp at this); omega
  have hz1_w1 : w.heap.size + 1 < w1.heap.size := by have := hb1.size; (try simp at this); omega
  have hz2_w1 : w.heap.size + 1 + 1 < w1.heap.size := by have := hb1.size; (try simp at this); omega
  go_wp2_with fail
  have C := spec_RatOk _ s _ w1 (Agg.below HY.out (by (repeat (first | (with_reducible exact Below.refl _ _) | ((with_reducible refine Below.set ?_ ?_ _); rotate_left; (simp <;> omega)) | (with_reducible refine Below.box_ ?_ _) | (with_reducible refine Below.next ?_ (by assumption))))))
  rw [S.out] at C
  refine C.mono ?_
  clear C
  rintro _ w2 ⟨rfl, hb2⟩
  obtain ⟨hc_w2, hf_w2⟩ := bcell hb2
  have hz0_w2 : w.heap.size < w2.heap.size := by have := hb2.size; (try simp at this); omega
  have hz1_w2 : w.heap.size + 1 < w2.heap.size := by have := hb2.size; (try simp at this); omega
  have hz2_w2 : w.heap.size + 1 + 1 < w2.heap.size := by have := hb2.size; (try simp at this); omega
  go_wp2_with fail
  refine (spec_l04Mul _ _ r s _ _ w2 (Agg.below HX.out (by (repeat (first | (with_reducible exact Below.refl _ _) | ((with_reducible refine Below.set ?_ ?_ _); rotate_left; (simp <;> omega)) | (with_reducible refine Below.box_ ?_ _) | (with_reducible refine Below.next ?_ (by assumption)))))) (Agg.below HY.out (by (repeat (first | (with_reducible exact Below.refl _ _) | ((with_reducible refine Below.set ?_ ?_ _); rotate_left; (simp <;> omega)) | (with_reducible refine Below.box_ ?_ _) | (with_reducible refine Below.next ?_ (by assumption)))))) VR.out VS.out).mono ?_
  rintro _ w4 ⟨v4, s5, rfl, ha4, ho4, hb4⟩
  obtain ⟨B1, m1, d1, t1, B2, m2, d2, t2, rfl, hz, _, _⟩ := TRat.agg ha4
  have HA := hid ha4; have HO := hid ho4
  have HL := hid (show w.heap.size + 3 ≤ w2.heap.size by omega)
  clear ha4 ho4 hz
  obtain ⟨hc_w4, hf_w4⟩ := bcell hb4
  have hz0_w4 : w.heap.size < w4.heap.size := by have := hb4.size; (try simp at this); omega
  have hz1_w4 : w.heap.size + 1 < w4.heap.size := by have := hb4.size; (try simp at this); omega
  have hz2_w4 : w.heap.size + 1 + 1 < w4.heap.size := by have := hb4.size; (try simp at this); omega
  go_wp2
  refine bodyPost_ret (v := .agg #[.bool (mkR (numv r * numv s) (denv r * denv s)).num.neg, .slice B1 m1 d1, .slice B2 m2 d2]) (by simp [results, Tryz.results37, go_sem, *]) rfl ?_
  rw [E.out]
  refine agg_fin (lo := w.heap.size + 3) HA.out HO.out.free (fun b hb => by have := (HO.out.range b hb).1; have := HL.out; omega) (by omega) ?_ ?_
  · (repeat (first | (with_reducible exact Above.refl _ _) | ((with_reducible refine Above.set ?_ ?_ _); rotate_left; (simp <;> omega)) | (with_reducible refine Above.box ?_ _) | (with_reducible refine Above.below ?_ (by assumption))))
  · (repeat (first | (with_reducible exact Below.refl _ _) | ((with_reducible refine Below.set ?_ ?_ _); rotate_left; (simp <;> omega)) | (with_reducible refine Below.box_ ?_ _) | (with_reducible refine Below.next ?_ (by assumption))))

end Go.Proofs.YthlpjpcnpcclhaaGreat.X

/- The reference's fractions: RatCmp, RatSign. -/
namespace Go.Proofs.YthlpjpcnpcclhaaGreat.X
open Go.RowKit Go.XB Go.XN
attribute [local go_sem] fillBy opAt deps depOf Region.wanted yielded
attribute [local simp] deps depOf MP.eq MP.agg MP.sl Facts
set_option linter.constructorNameAsVariable false

set_option maxHeartbeats 2000000 in
set_option maxRecDepth 10000 in
theorem spec_RatCmp (v1 v2 : Value) (r s : TRat) (b1 b2 : List Nat) (w : World) (hx : Agg w v1 r b1) (hy : Agg w v2 s b2) :
    Calls Tryz.prog 42 #[v1, v2] w (Gives w (.int .i64 (rcmp r s))) := by
  have HX := hid hx; have HY := hid hy
  obtain ⟨A1, n1, c1, s1, A2, n2, c2, s2, rfl, rfl, hs1, hs2⟩ := TRat.agg hx
  obtain ⟨A3, n3, c3, s3, A4, n4, c4, s4, rfl, rfl, hs3, hs4⟩ := TRat.agg hy
  clear hs1 hs2 hs3 hs4 hx hy
  cases hr : ratOkB r
  · have E := hid (show (0 : Int) = rcmp r s by unfold rcmp; rw [hr]; rfl)
    have R := hid hr
    clear hr
    go_enter Tryz.func42, Tryz.ntmps42
    go_wp2_with fail
    have C := spec_RatOk _ r _ ((w.alloc (.cells #[.bool r.num.neg, .slice A1 n1 c1, .slice A2 n2 c2] 43)).alloc (.cells #[.bool s.num.neg, .slice A3 n3 c3, .slice A4 n4 c4] 43)) (Agg.below HX.out (by (repeat (first | (with_reducible exact Below.refl _ _) | ((with_reducible refine Below.set ?_ ?_ _); rotate_left; (simp <;> omega)) | (with_reducible refine Below.box_ ?_ _) | (with_reducible refine Below.next ?_ (by assumption))))))
    rw [R.out] at C
    refine C.mono ?_
    clear C
    rintro _ w1 ⟨rfl, hb1⟩
    obtain ⟨hc_w1, hf_w1⟩ := bcell hb1
    have hz0_w1 : w.heap.size < w1.heap.size := by have := hb1.size; (try simp at this); omega
    have hz1_w1 : w.heap.size + 1 < w1.heap.size := by have := hb1.size; (try simp at this); omega
    go_wp2
    go_ret
    exact ⟨ret_int E.out, by (repeat (first | (with_reducible exact Below.refl _ _) | ((with_reducible refine Below.set ?_ ?_ _); rotate_left; (simp <;> omega)) | (with_reducible refine Below.box_ ?_ _) | (with_reducible refine Below.next ?_ (by assumption))))⟩
  cases hs : ratOkB s
  · have E := hid (show (0 : Int) = rcmp r s by unfold rcmp; rw [hr, hs]; rfl)
    have R := hid hr; have S := hid hs
    clear hr hs
    go_enter Tryz.func42, Tryz.ntmps42
    go_wp2_with fail
    have C := spec_RatOk _ r _ ((w.alloc (.cells #[.bool r.num.neg, .slice A1 n1 c1, .slice A2 n2 c2] 43)).alloc (.cells #[.bool s.num.neg, .slice A3 n3 c3, .slice A4 n4 c4] 43)) (Agg.below HX.out (by (repeat (first | (with_reducible exact Below.refl _ _) | ((with_reducible refine Below.set ?_ ?_ _); rotate_left; (simp <;> omega)) | (with_reducible refine Below.box_ ?_ _) | (with_reducible refine Below.next ?_ (by assumption))))))
    rw [R.out] at C
    refine C.mono ?_
    clear C
    rintro _ w1 ⟨rfl, hb1⟩
    obtain ⟨hc_w1, hf_w1⟩ := bcell hb1
    have hz0_w1 : w.heap.size < w1.heap.size := by have := hb1.size; (try simp at this); omega
    have hz1_w1 : w.heap.size + 1 < w1.heap.size := by have := hb1.size; (try simp at this); omega
    go_wp2_with fail
    have C := spec_RatOk _ s _ w1 (Agg.below HY.out (by (repeat (first | (with_reducible exact Below.refl _ _) | ((with_reducible refine Below.set ?_ ?_ _); rotate_left; (simp <;> omega)) | (with_reducible refine Below.box_ ?_ _) | (with_reducible refine Below.next ?_ (by assumption))))))
    rw [S.out] at C
    refine C.mono ?_
    clear C
    rintro _ w2 ⟨rfl, hb2⟩
    obtain ⟨hc_w2, hf_w2⟩ := bcell hb2
    have hz0_w2 : w.heap.size < w2.heap.size := by have := hb2.size; (try simp at this); omega
    have hz1_w2 : w.heap.size + 1 < w2.heap.size := by have := hb2.size; (try simp at this); omega
    go_wp2
    go_ret
    exact ⟨ret_int E.out, by (repeat (first | (with_reducible exact Below.refl _ _) | ((with_reducible refine Below.set ?_ ?_ _); rotate_left; (simp <;> omega)) | (with_reducible refine Below.box_ ?_ _) | (with_reducible refine Below.next ?_ (by assumption))))⟩
  have R := hid hr; have S := hid hs
  have VR := hid (ratOkB_iff.1 hr); have VS := hid (ratOkB_iff.1 hs)
  have E := hid (show rcmpV r s = rcmp r s by unfold rcmp; rw [hr, hs]; rfl)
  clear hr hs
  go_enter Tryz.func42, Tryz.ntmps42
  go_wp2_with fail
  have C := spec_RatOk _ r _ ((w.alloc (.cells #[.bool r.num.neg, .slice A1 n1 c1, .slice A2 n2 c2] 43)).alloc (.cells #[.bool s.num.neg, .slice A3 n3 c3, .slice A4 n4 c4] 43)) (Agg.below HX.out (by (repeat (first | (with_reducible exact Below.refl _ _) | ((with_reducible refine Below.set ?_ ?_ _); rotate_left; (simp <;> omega)) | (with_reducible refine Below.box_ ?_ _) | (with_reducible refine Below.next ?_ (by assumption))))))
  rw [R.out] at C
  refine C.mono ?_
  clear C
  rintro _ w1 ⟨rfl, hb1⟩
  obtain ⟨hc_w1, hf_w1⟩ := bcell hb1
  have hz0_w1 : w.heap.size < w1.heap.size := by have := hb1.size; (try simp at this); omega
  have hz1_w1 : w.heap.size + 1 < w1.heap.size := by have := hb1.size; (try simp at this); omega
  go_wp2_with fail
  have C := spec_RatOk _ s _ w1 (Agg.below HY.out (by (repeat (first | (with_reducible exact Below.refl _ _) | ((with_reducible refine Below.set ?_ ?_ _); rotate_left; (simp <;> omega)) | (with_reducible refine Below.box_ ?_ _) | (with_reducible refine Below.next ?_ (by assumption))))))
  rw [S.out] at C
  refine C.mono ?_
  clear C
  rintro _ w2 ⟨rfl, hb2⟩
  obtain ⟨hc_w2, hf_w2⟩ := bcell hb2
  have hz0_w2 : w.heap.size < w2.heap.size := by have := hb2.size; (try simp at this); omega
  have hz1_w2 : w.heap.size + 1 < w2.heap.size := by have := hb2.size; (try simp at this); omega
  go_wp2_with fail
  refine (spec_l04Cmp _ _ r s _ _ w2 (Agg.below HX.out (by (repeat (first | (with_reducible exact Below.refl _ _) | ((with_reducible refine Below.set ?_ ?_ _); rotate_left; (simp <;> omega)) | (with_reducible refine Below.box_ ?_ _) | (with_reducible refine Below.next ?_ (by assumption)))))) (Agg.below HY.out (by (repeat (first | (with_reducible exact Below.refl _ _) | ((with_reducible refine Below.set ?_ ?_ _); rotate_left; (simp <;> omega)) | (with_reducible refine Below.box_ ?_ _) | (with_reducible refine Below.next ?_ (by assumption)))))) VR.out VS.out).mono ?_
  rintro _ w3 ⟨rfl, hb3⟩
  go_wp2
  go_ret
  exact ⟨ret_int E.out, by (repeat (first | (with_reducible exact Below.refl _ _) | ((with_reducible refine Below.set ?_ ?_ _); rotate_left; (simp <;> omega)) | (with_reducible refine Below.box_ ?_ _) | (with_reducible refine Below.next ?_ (by assumption))))⟩

set_option maxHeartbeats 2000000 in
theorem spec_RatSign (v1 : Value) (r : TRat) (b1 : List Nat) (w : World) (hx : Agg w v1 r b1) :
    Calls Tryz.prog 58 #[v1] w (Gives w (.int .i64 (rsign r))) := by
  have HX := hid hx
  obtain ⟨A1, n1, c1, s1, A2, n2, c2, s2, rfl, rfl, hs1, hs2⟩ := TRat.agg hx
  have L1 := hid hs1.1
  clear hs1 hs2 hx
  cases hr : ratOkB r
  · have E := hid (show (0 : Int) = rsign r by unfold rsign; rw [hr]; rfl)
    have R := hid hr
    clear hr
    go_enter Tryz.func58, Tryz.ntmps58
    go_wp2_with fail
    have C := spec_RatOk _ r _ (w.alloc (.cells #[.bool r.num.neg, .slice A1 n1 c1, .slice A2 n2 c2] 43)) (Agg.below HX.out (by (repeat (first | (with_reducible exact Below.refl _ _) | ((with_reducible refine Below.set ?_ ?_ _); rotate_left; (simp <;> omega)) | (with_reducible refine Below.box_ ?_ _) | (with_reducible refine Below.next ?_ (by assumption))))))
    rw [R.out] at C
    refine C.mono ?_
    clear C
    rintro _ w1 ⟨rfl, hb1⟩
    obtain ⟨hc_w1, hf_w1⟩ := bcell hb1
    have hz0_w1 : w.heap.size < w1.heap.size := by have := hb1.size; (try simp at this); omega
    go_wp2
    go_ret
    exact ⟨ret_int E.out, by (repeat (first | (with_reducible exact Below.refl _ _) | ((with_reducible refine Below.set ?_ ?_ _); rotate_left; (simp <;> omega)) | (with_reducible refine Below.box_ ?_ _) | (with_reducible refine Below.next ?_ (by assumption))))⟩
  have R := hid hr
  have V := hid (ratOkB_iff.1 hr)
  have ER := hid (show rsign r = sgn (ival r.num) by unfold rsign; rw [hr]; rfl)
  clear hr
  rcases Nat.eq_zero_or_pos n1 with h0 | h0
  · subst h0
    have E := hid (show (0 : Int) = rsign r by
      rw [ER.out]; unfold ival; rw [List.eq_nil_of_length_eq_zero L1.out]; simp [val, sgn])
    go_enter Tryz.func58, Tryz.ntmps58
    go_wp2_with fail
    have C := spec_RatOk _ r _ (w.alloc (.cells #[.bool r.num.neg, .slice A1 0 c1, .slice A2 n2 c2] 43)) (Agg.below HX.out (by (repeat (first | (with_reducible exact Below.refl _ _) | ((with_reducible refine Below.set ?_ ?_ _); rotate_left; (simp <;> omega)) | (with_reducible refine Below.box_ ?_ _) | (with_reducible refine Below.next ?_ (by assumption))))))
    rw [R.out] at C
    refine C.mono ?_
    clear C
    rintro _ w1 ⟨rfl, hb1⟩
    obtain ⟨hc_w1, hf_w1⟩ := bcell hb1
    have hz0_w1 : w.heap.size < w1.heap.size := by have := hb1.size; (try simp at this); omega
    go_wp2
    go_ret
    exact ⟨ret_int E.out, by (repeat (first | (with_reducible exact Below.refl _ _) | ((with_reducible refine Below.set ?_ ?_ _); rotate_left; (simp <;> omega)) | (with_reducible refine Below.box_ ?_ _) | (with_reducible refine Below.next ?_ (by assumption))))⟩
  have z0 : ((n1 : Int) == 0) = false := by simp; omega
  have P := hid (V.out.mag.pos (by intro e; have := L1.out; rw [e] at this; simp at this; omega))
  clear h0
  cases hn : r.num.neg
  · have E := hid (show (1 : Int) = rsign r by
      rw [ER.out]; unfold ival; rw [hn]; have := P.out; unfold sgn; simp; omega)
    have HN := hid hn
    rw [hn] at HX
    clear hn
    go_enter Tryz.func58, Tryz.ntmps58
    go_wp2_with fail
    have C := spec_RatOk _ r _ (w.alloc (.cells #[.bool false, .slice A1 n1 c1, .slice A2 n2 c2] 43)) (Agg.below HX.out (by (repeat (first | (with_reducible exact Below.refl _ _) | ((with_reducible refine Below.set ?_ ?_ _); rotate_left; (simp <;> omega)) | (with_reducible refine Below.box_ ?_ _) | (with_reducible refine Below.next ?_ (by assumption))))))
    rw [R.out] at C
    refine C.mono ?_
    clear C
    rintro _ w1 ⟨rfl, hb1⟩
    obtain ⟨hc_w1, hf_w1⟩ := bcell hb1
    have hz0_w1 : w.heap.size < w1.heap.size := by have := hb1.size; (try simp at this); omega
    go_wp2
    go_ret
    exact ⟨ret_int E.out, by (repeat (first | (with_reducible exact Below.refl _ _) | ((with_reducible refine Below.set ?_ ?_ _); rotate_left; (simp <;> omega)) | (with_reducible refine Below.box_ ?_ _) | (with_reducible refine Below.next ?_ (by assumption))))⟩
  · have E := hid (show (-1 : Int) = rsign r by
      rw [ER.out]; unfold ival; rw [hn]; have := P.out; unfold sgn; simp; omega)
    have HN := hid hn
    rw [hn] at HX
    clear hn
    go_enter Tryz.func58, Tryz.ntmps58
    go_wp2_with fail
    have C := spec_RatOk _ r _ (w.alloc (.cells #[.bool true, .slice A1 n1 c1, .slice A2 n2 c2] 43)) (Agg.below HX.out (by (repeat (first | (with_reducible exact Below.refl _ _) | ((with_reducible refine Below.set ?_ ?_ _); rotate_left; (simp <;> omega)) | (with_reducible refine Below.box_ ?_ _) | (with_reducible refine Below.next ?_ (by assumption))))))
    rw [R.out] at C
    refine C.mono ?_
    clear C
    rintro _ w1 ⟨rfl, hb1⟩
    obtain ⟨hc_w1, hf_w1⟩ := bcell hb1
    have hz0_w1 : w.heap.size < w1.heap.size := by have := hb1.size; (try simp at this); omega
    go_wp2
    go_ret
    exact ⟨ret_int E.out, by (repeat (first | (with_reducible exact Below.refl _ _) | ((with_reducible refine Below.set ?_ ?_ _); rotate_left; (simp <;> omega)) | (with_reducible refine Below.box_ ?_ _) | (with_reducible refine Below.next ?_ (by assumption))))⟩
end Go.Proofs.YthlpjpcnpcclhaaGreat.X

/- The reference's fractions: l11Valid. -/
namespace Go.Proofs.YthlpjpcnpcclhaaGreat.X
open Go.RowKit Go.XB Go.XN
attribute [local go_sem] fillBy opAt deps depOf Region.wanted yielded
attribute [local simp] deps depOf MP.eq MP.agg MP.sl Facts
set_option linter.constructorNameAsVariable false

set_option maxHeartbeats 2000000 in
set_option maxRecDepth 10000 in
theorem spec_l11Valid (A : Option Addr) (n c : Nat) (xs : List TRat) (bs : List Nat) (w : World) (hx : Sl w A n c xs bs) :
    Calls Tryz.prog 70 #[.slice A n c] w (Gives w (.bool (xs.all ratOkB))) := by
  have HL := hid hx.1
  have HX := hid hx
  have hm : n ≤ maxLen := Nat.le_trans hx.2.1 hx.2.2.1
  unfold maxLen at hm
  clear hx
  go_enter Tryz.func70, Tryz.ntmps70
  go_wp2_with fail
  go_loopg [7] n (fun g s wr => ∃ k : Nat, k + g = n ∧ s = .int .i64 k ∧ Hid ((xs.take k).any (fun r => !ratOkB r) = false) ∧ Below w.heap.size w wr)
  case atStart => exact ⟨0, by omega, rfl, by show (xs.take 0).any _ = false; simp, Below.refl _ _⟩
  case round =>
    obtain ⟨k, hk, rfl, ha, hb⟩ := hrel
    rcases Nat.lt_or_ge k n with hkn | hkn
    · obtain ⟨be, offe, x, A1, m1, d1, s1, A2, m2, d2, s2, rfl, hble, hx1, e0, e1, e2, hag⟩ := TRat.elemA (Sl.below HX.out hb) hkn
      have HX1 := hid hx1
      have HAG := hid hag
      have hki : (k : Int) < n := by omega
      obtain ⟨g, rfl⟩ : ∃ g, gk = g + 1 := ⟨gk - 1, by omega⟩
      have hk' := hid (show k + 1 + g = n by omega)
      have hk1 : k + 1 ≤ n := hkn
      clear hx1 hk hkn hag
      cases hok : ratOkB x
      · have OK := hid hok
        have e := hid (show false = xs.all ratOkB by
          symm; rw [List.all_eq_false]; exact ⟨x, List.mem_of_getElem? HX1.out, by simp [hok]⟩)
        clear hok
        go_wp2_with fail
        have C := spec_RatOk _ x _ (wr.alloc (.cells #[.bool x.num.neg, .slice A1 m1 d1, .slice A2 m2 d2] 43)) (Agg.below HAG.out (Below.box _))
        rw [OK.out] at C
        refine C.mono ?_
        clear C
        rintro _ w1 ⟨rfl, hb1⟩
        have hb2 := Below.next hb (Below.next (Below.box _) hb1)
        go_wp2
        go_ret
        exact ⟨ret_bool e.out, hb2⟩
      · have OK := hid hok
        have r1 := hid (show (xs.take (k + 1)).any (fun r => !ratOkB r) = false from any_step HX1.out ha.out (by simp [hok]))
        clear hok
        go_wp2_with fail
        have C := spec_RatOk _ x _ (wr.alloc (.cells #[.bool x.num.neg, .slice A1 m1 d1, .slice A2 m2 d2] 43)) (Agg.below HAG.out (Below.box _))
        rw [OK.out] at C
        refine C.mono ?_
        clear C
        rintro _ w1 ⟨rfl, hb1⟩
        have hb2 := Below.next hb (Below.next (Below.box _) hb1)
        go_wp2_with fail
        go_roundg g
        case measure => omega
        case rel => exact ⟨k + 1, hk'.out, by go_num, r1, hb2⟩
    · have e := hid (show true = xs.all ratOkB by
        have := ha.out
        rw [List.take_of_length_le (by rw [HL.out]; omega)] at this
        symm; rw [List.all_eq_true]; intro r hr
        rw [List.any_eq_false] at this
        have := this r hr; simpa using this)
      have hki : ¬ ((k : Int) < n) := by omega
      clear hk hkn
      go_wp2
      go_ret
      exact ⟨ret_bool e.out, hb⟩
end Go.Proofs.YthlpjpcnpcclhaaGreat.X

/- The reference's fractions: l04Add. -/
namespace Go.Proofs.YthlpjpcnpcclhaaGreat.X
open Go.RowKit Go.XB Go.XN
attribute [local go_sem] fillBy opAt deps depOf Region.wanted yielded
attribute [local simp] deps depOf MP.eq MP.agg MP.sl Facts
set_option linter.constructorNameAsVariable false

set_option maxHeartbeats 4000000 in
set_option maxRecDepth 10000 in
theorem spec_l04Add (v1 v2 : Value) (r s : TRat) (b1 b2 : List Nat) (w : World) (hx : Agg w v1 r b1) (hy : Agg w v2 s b2) (vr : RatV r) (vs : RatV s) :
    Calls Tryz.prog 76 #[v1, v2] w (GivesAgg w (mkR (numv r * denv s + numv s * denv r) (denv r * denv s))) := by
  obtain ⟨A1, n1, c1, s1, A2, n2, c2, s2, rfl, rfl, hs1, hs2⟩ := TRat.agg hx
  obtain ⟨A3, n3, c3, s3, A4, n4, c4, s4, rfl, rfl, hs3, hs4⟩ := TRat.agg hy
  have H1 := hid hs1; have H2 := hid hs2; have H3 := hid hs3; have H4 := hid hs4
  have VR := hid vr; have VS := hid vs
  have DD := hid (vr.denD vs)
  clear hs1 hs2 hs3 hs4 hx hy vr vs
  by_cases hb : r.den = [1] ∧ s.den = [1]
  · have R1 := hid (show decide (r.den = [1]) = true by simp [hb.1])
    have S1 := hid (show decide (s.den = [1]) = true by simp [hb.2])
    have ER := hid (show numv r * denv s + numv s * denv r = numv r + numv s ∧ denv r * denv s = val [1] by
      unfold denv; rw [hb.1, hb.2]; have : val [1] = 1 := rfl
      rw [this]; omega)
    clear hb
    go_enter Tryz.func76, Tryz.ntmps76
    go_wp2_with fail
    have C := spec_l04One A2 n2 c2 r.den _ (((w.alloc (.cells #[.bool r.num.neg, .slice A1 n1 c1, .slice A2 n2 c2] 43)).alloc (.cells #[.bool s.num.neg, .slice A3 n3 c3, .slice A4 n4 c4] 43)).alloc (.cells #[.bool false, .slice none 0 0, .slice none 0 0] 43)) (Sl.below H2.out (by (repeat (first | (with_reducible exact Below.refl _ _) | ((with_reducible refine Below.set ?_ ?_ _); rotate_left; (simp <;> omega)) | (with_reducible refine Below.box_ ?_ _) | (with_reducible refine Below.next ?_ (by assumption))))))
    rw [R1.out] at C
    refine C.mono ?_
    clear C
    rintro _ w1 ⟨rfl, hb1⟩
    obtain ⟨hc_w1, hf_w1⟩ := bcell hb1
    have hz0_w1 : w.heap.size < w1.heap.size := by have := hb1.size; (try simp at this); omega
    have hz1_w1 : w.heap.size + 1 < w1.heap.size := by have := hb1.size; (try simp at this); omega
    have hz2_w1 : w.heap.size + 1 + 1 < w1.heap.size := by have := hb1.size; (try simp at this); omega
    go_wp2_with fail
    have C := spec_l04One A4 n4 c4 s.den _ w1 (Sl.below H4.out (by (repeat (first | (with_reducible exact Below.refl _ _) | ((with_reducible refine Below.set ?_ ?_ _); rotate_left; (simp <;> omega)) | (with_reducible refine Below.box_ ?_ _) | (with_reducible refine Below.next ?_ (by assumption))))))
    rw [S1.out] at C
    refine C.mono ?_
    clear C
    rintro _ w2 ⟨rfl, hb2⟩
    obtain ⟨hc_w2, hf_w2⟩ := bcell hb2
    have hz0_w2 : w.heap.size < w2.heap.size := by have := hb2.size; (try simp at this); omega
    have hz1_w2 : w.heap.size + 1 < w2.heap.size := by have := hb2.size; (try simp at this); omega
    have hz2_w2 : w.heap.size + 1 + 1 < w2.heap.size := by have := hb2.size; (try simp at this); omega
    go_wp2_with fail
    have bb2 : Below w.heap.size w w2 := by (repeat (first | (with_reducible exact Below.refl _ _) | ((with_reducible refine Below.set ?_ ?_ _); rotate_left; (simp <;> omega)) | (with_reducible refine Below.box_ ?_ _) | (with_reducible refine Below.next ?_ (by assumption))))
    refine (spec_l03Add _ _ r.num s.num _ _ w2 (TBigInt.mkAgg (Sl.below H1.out bb2)) (TBigInt.mkAgg (Sl.below H3.out bb2)) VR.out.mag VS.out.mag (Nat.le_trans VR.out.num24 (by decide)) (Nat.le_trans VS.out.num24 (by decide))).mono ?_
    rintro _ w3 ⟨v3, s5, rfl, ha3, ho3, hb3⟩
    obtain ⟨B1, m1, d1, t1, rfl, hz, hs5⟩ := TBigInt.agg ha3
    have HS5 := hid hs5; have HO5 := hid ho3
    clear ha3 ho3 hz hs5
    obtain ⟨hc_w3, hf_w3⟩ := bcell hb3
    have hz0_w3 : w.heap.size < w3.heap.size := by have := hb3.size; (try simp at this); omega
    have hz1_w3 : w.heap.size + 1 < w3.heap.size := by have := hb3.size; (try simp at this); omega
    have hz2_w3 : w.heap.size + 1 + 1 < w3.heap.size := by have := hb3.size; (try simp at this); omega
    go_wp2_with fail
    obtain ⟨ls, hls, _⟩ := lit_sl (w3.alloc (.cells #[.bool (encI (ival r.num + ival s.num)).neg, .slice B1 m1 d1] 41)) [1] (by simp [maxLen]) (by simp [I64])
    rw [show (w3.alloc (.cells #[.bool (encI (ival r.num + ival s.num)).neg, .slice B1 m1 d1] 41)).heap.size = w3.heap.size + 1 by simp] at hls
    have C := spec_l04Low (encI (ival r.num + ival s.num)).neg B1 (some ⟨w3.heap.size + 1, 0, none⟩) m1 1 d1 1 (encI (ival r.num + ival s.num)).mag [1] t1 ls ((w3.alloc (.cells #[.bool (encI (ival r.num + ival s.num)).neg, .slice B1 m1 d1] 41)).alloc (.cells #[.int .i64 1] 3)) (Sl.below (Sl.below HS5.out (Below.box _)) (Below.box _)) hls (encI_can _) ⟨Lims.one (by decide) (by decide), by decide⟩ (by decide) (by rw [← HS5.out.1]; exact Nat.le_trans (enc_len (len_add VR.out.numlt VS.out.numlt)) (by decide)) (by decide)
    rw [show sval (encI (ival r.num + ival s.num)).neg (encI (ival r.num + ival s.num)).mag = numv r + numv s from ival_enc _, ← ER.out.1, ← ER.out.2] at C
    refine C.mono ?_
    clear C hls
    rintro _ w4 ⟨v4, s6, rfl, ha4, ho4, hb4⟩
    obtain ⟨P1, m5, d5, t5, P2, m6, d6, t6, rfl, hz, _, _⟩ := TRat.agg ha4
    have HA := hid ha4; have HO := hid ho4
    have HL := hid (show w.heap.size + 3 ≤ w3.heap.size by omega)
    clear ha4 ho4 hz
    obtain ⟨hc_w4, hf_w4⟩ := bcell hb4
    have hz0_w4 : w.heap.size < w4.heap.size := by have := hb4.size; simp at this; omega
    have hz1_w4 : w.heap.size + 1 < w4.heap.size := by have := hb4.size; simp at this; omega
    have hz2_w4 : w.heap.size + 1 + 1 < w4.heap.size := by have := hb4.size; simp at this; omega
    have hzz : w.heap.size + 1 + 1 < w3.heap.size + 1 + 1 := by omega
    go_wp2
    refine bodyPost_ret (v := .agg #[.bool (mkR (numv r * denv s + numv s * denv r) (denv r * denv s)).num.neg, .slice P1 m5 d5, .slice P2 m6 d6]) (by simp [results, Tryz.results76, go_sem, *]) rfl ?_
    refine agg_fin (lo := w.heap.size + 3) HA.out HO.out.free (fun b hb => by have := (HO.out.range b hb).1; have := HL.out; simp at *; omega) (by omega) ?_ ?_
    · (repeat (first | (with_reducible exact Above.refl _ _) | ((with_reducible refine Above.set ?_ ?_ _); rotate_left; (simp <;> omega)) | (with_reducible refine Above.box ?_ _) | (with_reducible refine Above.below ?_ (by assumption))))
    · (repeat (first | (with_reducible exact Below.refl _ _) | ((with_reducible refine Below.set ?_ ?_ _); rotate_left; (simp <;> omega)) | (with_reducible refine Below.box_ ?_ _) | (with_reducible refine Below.next ?_ (by assumption))))
  · have N1 := hid (show n1 ≤ 1048576 by rw [← H1.out.1]; have := VR.out.num24; omega)
    have N2 := hid (show n2 ≤ 1048576 by rw [← H2.out.1]; have := VR.out.den24; omega)
    have N3 := hid (show n3 ≤ 1048576 by rw [← H3.out.1]; have := VS.out.num24; omega)
    have N4 := hid (show n4 ≤ 1048576 by rw [← H4.out.1]; have := VS.out.den24; omega)
    by_cases hr1 : r.den = [1]
    · have R1 := hid (show decide (r.den = [1]) = true by simp [hr1])
      have S1 := hid (show decide (s.den = [1]) = false by simp; intro h; exact hb ⟨hr1, h⟩)
      clear hb hr1
      go_enter Tryz.func76, Tryz.ntmps76
      go_wp2_with fail
      have C := spec_l04One A2 n2 c2 r.den _ (((w.alloc (.cells #[.bool r.num.neg, .slice A1 n1 c1, .slice A2 n2 c2] 43)).alloc (.cells #[.bool s.num.neg, .slice A3 n3 c3, .slice A4 n4 c4] 43)).alloc (.cells #[.bool false, .slice none 0 0, .slice none 0 0] 43)) (Sl.below H2.out (by (repeat (first | (with_reducible exact Below.refl _ _) | ((with_reducible refine Below.set ?_ ?_ _); rotate_left; (simp <;> omega)) | (with_reducible refine Below.box_ ?_ _) | (with_reducible refine Below.next ?_ (by assumption))))))
      rw [R1.out] at C
      refine C.mono ?_
      clear C
      rintro _ w0 ⟨rfl, hb0⟩
      obtain ⟨hc_w0, hf_w0⟩ := bcell hb0
      have hz0_w0 : w.heap.size < w0.heap.size := by have := hb0.size; (try simp at this); omega
      have hz1_w0 : w.heap.size + 1 < w0.heap.size := by have := hb0.size; (try simp at this); omega
      have hz2_w0 : w.heap.size + 1 + 1 < w0.heap.size := by have := hb0.size; (try simp at this); omega
      go_wp2_with fail
      have C := spec_l04One A4 n4 c4 s.den _ w0 (Sl.below H4.out (by (repeat (first | (with_reducible exact Below.refl _ _) | ((with_reducible refine Below.set ?_ ?_ _); rotate_left; (simp <;> omega)) | (with_reducible refine Below.box_ ?_ _) | (with_reducible refine Below.next ?_ (by assumption))))))
      rw [S1.out] at C
      refine C.mono ?_
      clear C
      rintro _ w1 ⟨rfl, hb1⟩
      obtain ⟨hc_w1, hf_w1⟩ := bcell hb1
      have hz0_w1 : w.heap.size < w1.heap.size := by have := hb1.size; (try simp at this); omega
      have hz1_w1 : w.heap.size + 1 < w1.heap.size := by have := hb1.size; (try simp at this); omega
      have hz2_w1 : w.heap.size + 1 + 1 < w1.heap.size := by have := hb1.size; (try simp at this); omega
      go_wp2_with fail
      refine wp_region_last (by simp) (by kernel_rfl) (by kernel_rfl) (by kernel_rfl) (by kernel_rfl) ?_
      dsimp only [List.dropLast, List.getLast, List.length]
      iterate 8
        apply walkM_eq
        case h =>
          intro yq zq wq hC hd
          obtain ⟨hcq, hfq⟩ := bcell hC
          simp at hd
          refine ⟨by go_simp; done, ?_⟩
          go_simp
          first | (go_ints; exact rfl) | (go_ints; rw [if_pos (by omega)]; try exact rfl) | exact rfl | (rw [if_pos (by omega)]; try exact rfl)
      refine walkM_call (MP.sl (dig (val r.num.mag * val s.den).toNat)) ?_ ?_
      · intro yq zq wq hC hd
        obtain ⟨hcq, hfq⟩ := bcell hC
        simp at hd
        refine ⟨by go_simp; done, ?_⟩
        apply Exists.intro
        apply Exists.intro
        constructor
        · go_simp
          exact ⟨rfl, rfl⟩
        · exact gives_sl ((spec_l02Mul A1 A4 n1 n4 c1 c4 r.num.mag s.den _ _ wq (Sl.below H1.out (by (repeat (first | (with_reducible exact Below.refl _ _) | ((with_reducible refine Below.set ?_ ?_ _); rotate_left; (simp <;> omega)) | (with_reducible refine Below.box_ ?_ _) | (with_reducible refine Below.next ?_ (by assumption)))))) (Sl.below H4.out (by (repeat (first | (with_reducible exact Below.refl _ _) | ((with_reducible refine Below.set ?_ ?_ _); rotate_left; (simp <;> omega)) | (with_reducible refine Below.box_ ?_ _) | (with_reducible refine Below.next ?_ (by assumption)))))) VR.out.mag.1 VS.out.den.1 N1.out N4.out).mono fun _ _ h => row_gives (dig_can _).1.i64 h)
      refine walkM_call (MP.agg (encI (numv r * denv s))) ?_ ?_
      · intro yq zq wq hC hd
        obtain ⟨hcq, hfq⟩ := bcell hC
        simp at hd
        refine ⟨by go_simp; done, ?_⟩
        apply Exists.intro
        apply Exists.intro
        constructor
        · go_simp
          exact ⟨rfl, rfl⟩
        · obtain ⟨_, ⟨A, n, c, e, hs⟩, _⟩ := hd
          rw [e]
          have C := spec_l03Make r.num.neg A n c _ _ wq hs (dig_can _) (by rw [← hs.1]; exact Nat.le_trans (mul_len VR.out.mag.1 VS.out.den.1 VR.out.num24 VS.out.den24) (by decide))
          rw [nd_mk VR.out.mag.1 VS.out.den.1 hs.1] at C
          exact gives_agg C
      refine walkM_new #[.bool false, .slice none 0 0] 41 ?_ ?_
      · intro yq zq wq hC hd
        refine ⟨by go_simp; done, ?_⟩
        go_simp
      intro yq zq wa hC hd hdis0
      have hdis := hid hdis0
      clear hdis0
      simp at hd
      have q9 := hd.2.2.2.2.2.2.2.2.2.1
      have q10 := hd.2.2.2.2.2.2.2.2.2.2
      obtain ⟨⟨ha9, hf9⟩, hr9⟩ := q9
      obtain ⟨B1, B2, B3, Bt, e9, hz9, hs9⟩ := TBigInt.agg ha9
      obtain ⟨⟨g, e10, hz10, hg⟩, hr10⟩ := q10
      have hgt : ∀ b ∈ Bt, b ≠ g := fun b hb e => by
        have := hdis.out 9 10 (by decide) (by decide) (by decide) b (by rw [hz9]; exact hb)
        rw [hz10] at this; simp at this; exact this e
      rw [hz9] at hf9 hr9
      have hgw : w1.heap.size ≤ g ∧ g < wa.heap.size := by have := hr10 g (by rw [hz10]; simp); omega
      have hgw1 := hgw.1
      obtain ⟨G0, F0⟩ := box_cell hg (j := 0) rfl
      obtain ⟨G1, F1⟩ := box_cell hg (j := 1) rfl
      obtain ⟨k1, k2⟩ := keep_sl hs9 hf9 hgt (.bool (encI (numv r * denv s)).neg) (.slice B1 B2 B3)
      have HK4 := hid k1
      clear hd hdis hs9 hf9 hr9 hr10 hg hgt k1 k2 ha9 hz9 hz10
      have hb4 : Below w.heap.size w ((wa.setCell ⟨g, 0, none⟩ (.bool (encI (numv r * denv s)).neg)).setCell ⟨g, 1, none⟩ (.slice B1 B2 B3)) := by (repeat (first | (with_reducible exact Below.refl _ _) | ((with_reducible refine Below.set ?_ ?_ _); rotate_left; (simp <;> omega)) | (with_reducible refine Below.box_ ?_ _) | (with_reducible refine Below.next ?_ (by assumption))))
      have K1 : ((wa.setCell ⟨g, 0, none⟩ (.bool (encI (numv r * denv s)).neg)).setCell ⟨g, 1, none⟩ (.slice B1 B2 B3)).cell? ⟨g, 1, none⟩ = some (.slice B1 B2 B3) :=
        World.cell?_setCell_same _ _ _ ((World.cell?_setCell_other wa ⟨g, 0, none⟩ ⟨g, 1, none⟩ _ (by simp)).trans G1)
      have K0 : ((wa.setCell ⟨g, 0, none⟩ (.bool (encI (numv r * denv s)).neg)).setCell ⟨g, 1, none⟩ (.slice B1 B2 B3)).cell? ⟨g, 0, none⟩ = some (.bool (encI (numv r * denv s)).neg) :=
        (World.cell?_setCell_other _ ⟨g, 1, none⟩ ⟨g, 0, none⟩ _ (by simp)).trans (World.cell?_setCell_same _ _ _ G0)
      have HBn4 := hid (show Below w1.heap.size w1 ((wa.setCell ⟨g, 0, none⟩ (.bool (encI (numv r * denv s)).neg)).setCell ⟨g, 1, none⟩ (.slice B1 B2 B3)) from (hC.setCell (p := ⟨g, 0, none⟩) hgw1 _).setCell (p := ⟨g, 1, none⟩) hgw1 _)
      have HKa4 := hid K0; have HKb4 := hid K1; have HB4 := hid hb4
      have HZ4 := hid (show ((wa.setCell ⟨g, 0, none⟩ (.bool (encI (numv r * denv s)).neg)).setCell ⟨g, 1, none⟩ (.slice B1 B2 B3)).heap.size = wa.heap.size by simp)
      have hgl4 := hgw.2
      clear K0 K1 hb4
      obtain ⟨hc_wa, hf_wa⟩ := bcell hC
      have hz0_wa : w.heap.size < wa.heap.size := by have := hC.size; (try simp at this); omega
      have hz1_wa : w.heap.size + 1 < wa.heap.size := by have := hC.size; (try simp at this); omega
      have hz2_wa : w.heap.size + 1 + 1 < wa.heap.size := by have := hC.size; (try simp at this); omega
      go_wp2_with fail
      generalize ((wa.setCell ⟨g, 0, none⟩ (.bool (encI (numv r * denv s)).neg)).setCell ⟨g, 1, none⟩ (.slice B1 B2 B3)) = W4 at *
      have hgm4 : g < W4.heap.size := by have := HZ4.out; omega
      have kka4 := HKa4.out
      have kkb4 := HKb4.out
      obtain ⟨hc_W4, hf_W4⟩ := bcell HBn4.out
      have hz4s : w1.heap.size ≤ W4.heap.size := HBn4.out.size
      have hz4a : w.heap.size < W4.heap.size := by omega
      have hz4b : w.heap.size + 1 < W4.heap.size := by omega
      have hz4c : w.heap.size + 1 + 1 < W4.heap.size := by omega
      clear G0 G1 F0 F1 hc_wa hf_wa e9 e10 hC hz0_wa hz1_wa hz2_wa hgw hgw1
      have hbW4 := HB4.out
      refine wp_region_last (by simp) (by kernel_rfl) (by kernel_rfl) (by kernel_rfl) (by kernel_rfl) ?_
      dsimp only [List.dropLast, List.getLast, List.length]
      iterate 8
        apply walkM_eq
        case h =>
          intro yq zq wq hC hd
          obtain ⟨hcq, hfq⟩ := bcell hC
          simp at hd
          refine ⟨by go_simp; done, ?_⟩
          go_simp
          first | (go_ints; exact rfl) | (go_ints; rw [if_pos (by omega)]; try exact rfl) | exact rfl | (rw [if_pos (by omega)]; try exact rfl)
      refine walkM_call (MP.sl (dig (val s.num.mag * val r.den).toNat)) ?_ ?_
      · intro yq zq wq hC hd
        obtain ⟨hcq, hfq⟩ := bcell hC
        simp at hd
        refine ⟨by go_simp; done, ?_⟩
        apply Exists.intro
        apply Exists.intro
        constructor
        · go_simp
          exact ⟨rfl, rfl⟩
        · exact gives_sl ((spec_l02Mul A3 A2 n3 n2 c3 c2 s.num.mag r.den _ _ wq (Sl.below H3.out (by (repeat (first | (with_reducible exact Below.refl _ _) | ((with_reducible refine Below.set ?_ ?_ _); rotate_left; (simp <;> omega)) | (with_reducible refine Below.box_ ?_ _) | (with_reducible refine Below.next ?_ (by assumption)))))) (Sl.below H2.out (by (repeat (first | (with_reducible exact Below.refl _ _) | ((with_reducible refine Below.set ?_ ?_ _); rotate_left; (simp <;> omega)) | (with_reducible refine Below.box_ ?_ _) | (with_reducible refine Below.next ?_ (by assumption)))))) VS.out.mag.1 VR.out.den.1 N3.out N2.out).mono fun _ _ h => row_gives (dig_can _).1.i64 h)
      refine walkM_call (MP.agg (encI (numv s * denv r))) ?_ ?_
      · intro yq zq wq hC hd
        obtain ⟨hcq, hfq⟩ := bcell hC
        simp at hd
        refine ⟨by go_simp; done, ?_⟩
        apply Exists.intro
        apply Exists.intro
        constructor
        · go_simp
          exact ⟨rfl, rfl⟩
        · obtain ⟨_, ⟨A, n, c, e, hs⟩, _⟩ := hd
          rw [e]
          have C := spec_l03Make s.num.neg A n c _ _ wq hs (dig_can _) (by rw [← hs.1]; exact Nat.le_trans (mul_len VS.out.mag.1 VR.out.den.1 VS.out.num24 VR.out.den24) (by decide))
          rw [nd_mk VS.out.mag.1 VR.out.den.1 hs.1] at C
          exact gives_agg C
      refine walkM_new #[.bool false, .slice none 0 0] 41 ?_ ?_
      · intro yq zq wq hC hd
        refine ⟨by go_simp; done, ?_⟩
        go_simp
      intro yq zq wb hC hd hdis0
      have hdis := hid hdis0
      clear hdis0
      simp at hd
      have q9 := hd.2.2.2.2.2.2.2.2.2.1
      have q10 := hd.2.2.2.2.2.2.2.2.2.2
      obtain ⟨⟨ha9, hf9⟩, hr9⟩ := q9
      obtain ⟨D1, D2, D3, Dt, e9, hz9, hs9⟩ := TBigInt.agg ha9
      obtain ⟨⟨g5, e10, hz10, hg⟩, hr10⟩ := q10
      have hgt : ∀ b ∈ Dt, b ≠ g5 := fun b hb e => by
        have := hdis.out 9 10 (by decide) (by decide) (by decide) b (by rw [hz9]; exact hb)
        rw [hz10] at this; simp at this; exact this e
      rw [hz9] at hf9 hr9
      have hgw : W4.heap.size ≤ g5 ∧ g5 < wb.heap.size := by have := hr10 g5 (by rw [hz10]; simp); omega
      have hgw1 := hgw.1
      obtain ⟨G0, F0⟩ := box_cell hg (j := 0) rfl
      obtain ⟨G1, F1⟩ := box_cell hg (j := 1) rfl
      obtain ⟨k1, k2⟩ := keep_sl hs9 hf9 hgt (.bool (encI (numv s * denv r)).neg) (.slice D1 D2 D3)
      have HK5 := hid k1
      clear hd hdis hs9 hf9 hr9 hr10 hg hgt k1 k2 ha9 hz9 hz10
      have hb4 : Below w.heap.size w ((wb.setCell ⟨g5, 0, none⟩ (.bool (encI (numv s * denv r)).neg)).setCell ⟨g5, 1, none⟩ (.slice D1 D2 D3)) := by (repeat (first | (with_reducible exact Below.refl _ _) | ((with_reducible refine Below.set ?_ ?_ _); rotate_left; (simp <;> omega)) | (with_reducible refine Below.box_ ?_ _) | (with_reducible refine Below.next ?_ (by assumption))))
      have K1 : ((wb.setCell ⟨g5, 0, none⟩ (.bool (encI (numv s * denv r)).neg)).setCell ⟨g5, 1, none⟩ (.slice D1 D2 D3)).cell? ⟨g5, 1, none⟩ = some (.slice D1 D2 D3) :=
        World.cell?_setCell_same _ _ _ ((World.cell?_setCell_other wb ⟨g5, 0, none⟩ ⟨g5, 1, none⟩ _ (by simp)).trans G1)
      have K0 : ((wb.setCell ⟨g5, 0, none⟩ (.bool (encI (numv s * denv r)).neg)).setCell ⟨g5, 1, none⟩ (.slice D1 D2 D3)).cell? ⟨g5, 0, none⟩ = some (.bool (encI (numv s * denv r)).neg) :=
        (World.cell?_setCell_other _ ⟨g5, 1, none⟩ ⟨g5, 0, none⟩ _ (by simp)).trans (World.cell?_setCell_same _ _ _ G0)
      have HBn5 := hid (show Below W4.heap.size W4 ((wb.setCell ⟨g5, 0, none⟩ (.bool (encI (numv s * denv r)).neg)).setCell ⟨g5, 1, none⟩ (.slice D1 D2 D3)) from (hC.setCell (p := ⟨g5, 0, none⟩) hgw1 _).setCell (p := ⟨g5, 1, none⟩) hgw1 _)
      have HKa5 := hid K0; have HKb5 := hid K1; have HB5 := hid hb4
      have HZ5 := hid (show ((wb.setCell ⟨g5, 0, none⟩ (.bool (encI (numv s * denv r)).neg)).setCell ⟨g5, 1, none⟩ (.slice D1 D2 D3)).heap.size = wb.heap.size by simp)
      have hgl5 := hgw.2
      clear K0 K1 hb4
      obtain ⟨hc_wb, hf_wb⟩ := bcell hC
      have hz0_wb : w.heap.size < wb.heap.size := by have := hC.size; (try simp at this); omega
      have hz1_wb : w.heap.size + 1 < wb.heap.size := by have := hC.size; (try simp at this); omega
      have hz2_wb : w.heap.size + 1 + 1 < wb.heap.size := by have := hC.size; (try simp at this); omega
      go_wp2_with fail
      generalize ((wb.setCell ⟨g5, 0, none⟩ (.bool (encI (numv s * denv r)).neg)).setCell ⟨g5, 1, none⟩ (.slice D1 D2 D3)) = W5 at *
      have hgm5 : g5 < W5.heap.size := by have := HZ5.out; omega
      have kka5 := HKa5.out
      have kkb5 := HKb5.out
      obtain ⟨hc_W5, hf_W5⟩ := bcell HBn5.out
      have hz5s : W4.heap.size ≤ W5.heap.size := HBn5.out.size
      have hz5a : w.heap.size < W5.heap.size := by omega
      have hz5b : w.heap.size + 1 < W5.heap.size := by omega
      have hz5c : w.heap.size + 1 + 1 < W5.heap.size := by omega
      clear G0 G1 F0 F1 hc_wb hf_wb e9 e10 hC hz0_wb hz1_wb hz2_wb hgw hgw1
      have hbW5 := HB5.out
      have bb5 : Below w.heap.size w W5 := hbW5
      have T4 := hid (show (encI (numv r * denv s)).mag.length ≤ 59 from Nat.le_trans (enc_len (len_mul VR.out.numlt VS.out.denlt)) (by decide))
      have T5 := hid (show (encI (numv s * denv r)).mag.length ≤ 59 from Nat.le_trans (enc_len (len_mul VS.out.numlt VR.out.denlt)) (by decide))
      have T6 := hid (show (encI (numv r * denv s + numv s * denv r)).mag.length ≤ 65536 by
        have h := enc_len (len_add (len_mul VR.out.numlt VS.out.denlt) (len_mul VS.out.numlt VR.out.denlt))
        omega)
      go_wp2_with fail
      have C := spec_l03Add _ _ (encI (numv r * denv s)) (encI (numv s * denv r)) _ _ W5 (TBigInt.mkAgg (Sl.below HK4.out HBn5.out)) (TBigInt.mkAgg HK5.out) (encI_can _) (encI_can _) T4.out T5.out
      rw [ival_enc, ival_enc] at C
      refine C.mono ?_
      clear C
      rintro _ w6 ⟨v6, s6, rfl, ha6, ho6, hb6⟩
      obtain ⟨E1, E2, E3, Et, rfl, hz, hs6⟩ := TBigInt.agg ha6
      have HS6 := hid hs6
      clear ha6 ho6 hz hs6 kka4 kkb4 kka5 kkb5
      obtain ⟨hc_w6, hf_w6⟩ := bcell hb6
      have hz0_w6 : w.heap.size < w6.heap.size := by have := hb6.size; (try simp at this); omega
      have hz1_w6 : w.heap.size + 1 < w6.heap.size := by have := hb6.size; (try simp at this); omega
      have hz2_w6 : w.heap.size + 1 + 1 < w6.heap.size := by have := hb6.size; (try simp at this); omega
      go_wp2_with fail
      have bb6 : Below w.heap.size w w6 := Below.next bb5 hb6
      refine wp_region_last (by simp) (by kernel_rfl) (by kernel_rfl) (by kernel_rfl) (by kernel_rfl) ?_
      dsimp only [List.dropLast, List.getLast, List.length]
      iterate 8
        apply walkM_eq
        case h =>
          intro yq zq wq hC hd
          obtain ⟨hcq, hfq⟩ := bcell hC
          simp at hd
          refine ⟨by go_simp; done, ?_⟩
          go_simp
          first | (go_ints; exact rfl) | (go_ints; rw [if_pos (by omega)]; try exact rfl) | exact rfl | (rw [if_pos (by omega)]; try exact rfl)
      refine walkM_call (MP.sl (dig (denv r * denv s).toNat)) ?_ ?_
      · intro yq zq wq hC hd
        obtain ⟨hcq, hfq⟩ := bcell hC
        simp at hd
        refine ⟨by go_simp; done, ?_⟩
        apply Exists.intro
        apply Exists.intro
        constructor
        · go_simp
          exact ⟨rfl, rfl⟩
        · exact gives_sl ((spec_l02Mul A2 A4 n2 n4 c2 c4 r.den s.den _ _ wq (Sl.below H2.out (by (repeat (first | (with_reducible exact Below.refl _ _) | ((with_reducible refine Below.set ?_ ?_ _); rotate_left; (simp <;> omega)) | (with_reducible refine Below.box_ ?_ _) | (with_reducible refine Below.next ?_ (by assumption)))))) (Sl.below H4.out (by (repeat (first | (with_reducible exact Below.refl _ _) | ((with_reducible refine Below.set ?_ ?_ _); rotate_left; (simp <;> omega)) | (with_reducible refine Below.box_ ?_ _) | (with_reducible refine Below.next ?_ (by assumption)))))) VR.out.den.1 VS.out.den.1 N2.out N4.out).mono fun _ _ h => row_gives (dig_can _).1.i64 h)
      refine walkM_call (MP.agg (mkR (numv r * denv s + numv s * denv r) (denv r * denv s))) ?_ ?_
      · intro yq zq wq hC hd
        obtain ⟨hcq, hfq⟩ := bcell hC
        simp at hd
        refine ⟨by go_simp; done, ?_⟩
        apply Exists.intro
        apply Exists.intro
        constructor
        · go_simp
          exact ⟨rfl, rfl⟩
        · obtain ⟨_, _, ⟨A', n', c', e', hs'⟩, _⟩ := hd
          rw [e']
          have C := spec_l04Low (encI (numv r * denv s + numv s * denv r)).neg E1 A' E2 n' E3 c' (encI (numv r * denv s + numv s * denv r)).mag _ _ _ wq (Sl.below (Sl.below HS6.out (Below.box _)) hC) hs' (encI_can _) (dig_can _) (by rw [← hs'.1]; exact DD.out.pos) (by rw [← HS6.out.1]; exact T6.out) (by rw [← hs'.1]; exact DD.out.le)
          rw [show sval (encI (numv r * denv s + numv s * denv r)).neg (encI (numv r * denv s + numv s * denv r)).mag = numv r * denv s + numv s * denv r from ival_enc _, DD.out.v] at C
          exact gives_agg C
      intro yq zq wc hC hd hdis0
      have hdis := hid hdis0
      clear hdis0
      simp at hd
      have q9 := hd.2.2.2.2.2.2.2.2.2
      obtain ⟨⟨ha, hf⟩, hr⟩ := q9
      obtain ⟨P1, P2, P3, Pt, Q1, Q2, Q3, Qt, e9, hz, hs1, hs2⟩ := TRat.agg ha
      have HA := hid ha; have HF := hid hf; have HR := hid hr
      clear hd hdis hz hs1 hs2 ha hf hr
      have HL := hid (show w.heap.size + 3 ≤ (w6.alloc (.cells #[.bool (encI (numv r * denv s + numv s * denv r)).neg, .slice E1 E2 E3] 41)).heap.size by simp; omega)
      obtain ⟨hc_wc, hf_wc⟩ := bcell hC
      have hz0_wc : w.heap.size < wc.heap.size := by have := hC.size; simp at this; omega
      have hz1_wc : w.heap.size + 1 < wc.heap.size := by have := hC.size; simp at this; omega
      have hz2_wc : w.heap.size + 1 + 1 < wc.heap.size := by have := hC.size; simp at this; omega
      have hzz : w.heap.size + 1 + 1 < w6.heap.size + 1 := by omega
      go_wp2
      refine bodyPost_ret (v := .agg #[.bool (mkR (numv r * denv s + numv s * denv r) (denv r * denv s)).num.neg, .slice P1 P2 P3, .slice Q1 Q2 Q3]) (by simp [results, Tryz.results76, go_sem, *]) rfl ?_
      rw [e9] at HA
      refine agg_fin (lo := w.heap.size + 3) HA.out HF.out (fun b hb => by have := (HR.out b hb).1; have := HL.out; omega) (by omega) ?_ ?_
      · (repeat (first | (with_reducible exact Above.refl _ _) | ((with_reducible refine Above.set ?_ ?_ _); rotate_left; (simp <;> omega)) | (with_reducible refine Above.box ?_ _) | (with_reducible refine Above.below ?_ (by assumption))))
      · (repeat (first | (with_reducible exact Below.refl _ _) | ((with_reducible refine Below.set ?_ ?_ _); rotate_left; (simp <;> omega)) | (with_reducible refine Below.box_ ?_ _) | (with_reducible refine Below.next ?_ (by assumption))))
    · have R1 := hid (show decide (r.den = [1]) = false by simp [hr1])
      clear hb hr1
      go_enter Tryz.func76, Tryz.ntmps76
      go_wp2_with fail
      have C := spec_l04One A2 n2 c2 r.den _ (((w.alloc (.cells #[.bool r.num.neg, .slice A1 n1 c1, .slice A2 n2 c2] 43)).alloc (.cells #[.bool s.num.neg, .slice A3 n3 c3, .slice A4 n4 c4] 43)).alloc (.cells #[.bool false, .slice none 0 0, .slice none 0 0] 43)) (Sl.below H2.out (by (repeat (first | (with_reducible exact Below.refl _ _) | ((with_reducible refine Below.set ?_ ?_ _); rotate_left; (simp <;> omega)) | (with_reducible refine Below.box_ ?_ _) | (with_reducible refine Below.next ?_ (by assumption))))))
      rw [R1.out] at C
      refine C.mono ?_
      clear C
      rintro _ w1 ⟨rfl, hb1⟩
      obtain ⟨hc_w1, hf_w1⟩ := bcell hb1
      have hz0_w1 : w.heap.size < w1.heap.size := by have := hb1.size; (try simp at this); omega
      have hz1_w1 : w.heap.size + 1 < w1.heap.size := by have := hb1.size; (try simp at this); omega
      have hz2_w1 : w.heap.size + 1 + 1 < w1.heap.size := by have := hb1.size; (try simp at this); omega
      go_wp2_with fail
      refine wp_region_last (by simp) (by kernel_rfl) (by kernel_rfl) (by kernel_rfl) (by kernel_rfl) ?_
      dsimp only [List.dropLast, List.getLast, List.length]
      iterate 8
        apply walkM_eq
        case h =>
          intro yq zq wq hC hd
          obtain ⟨hcq, hfq⟩ := bcell hC
          simp at hd
          refine ⟨by go_simp; done, ?_⟩
          go_simp
          first | (go_ints; exact rfl) | (go_ints; rw [if_pos (by omega)]; try exact rfl) | exact rfl | (rw [if_pos (by omega)]; try exact rfl)
      refine walkM_call (MP.sl (dig (val r.num.mag * val s.den).toNat)) ?_ ?_
      · intro yq zq wq hC hd
        obtain ⟨hcq, hfq⟩ := bcell hC
        simp at hd
        refine ⟨by go_simp; done, ?_⟩
        apply Exists.intro
        apply Exists.intro
        constructor
        · go_simp
          exact ⟨rfl, rfl⟩
        · exact gives_sl ((spec_l02Mul A1 A4 n1 n4 c1 c4 r.num.mag s.den _ _ wq (Sl.below H1.out (by (repeat (first | (with_reducible exact Below.refl _ _) | ((with_reducible refine Below.set ?_ ?_ _); rotate_left; (simp <;> omega)) | (with_reducible refine Below.box_ ?_ _) | (with_reducible refine Below.next ?_ (by assumption)))))) (Sl.below H4.out (by (repeat (first | (with_reducible exact Below.refl _ _) | ((with_reducible refine Below.set ?_ ?_ _); rotate_left; (simp <;> omega)) | (with_reducible refine Below.box_ ?_ _) | (with_reducible refine Below.next ?_ (by assumption)))))) VR.out.mag.1 VS.out.den.1 N1.out N4.out).mono fun _ _ h => row_gives (dig_can _).1.i64 h)
      refine walkM_call (MP.agg (encI (numv r * denv s))) ?_ ?_
      · intro yq zq wq hC hd
        obtain ⟨hcq, hfq⟩ := bcell hC
        simp at hd
        refine ⟨by go_simp; done, ?_⟩
        apply Exists.intro
        apply Exists.intro
        constructor
        · go_simp
          exact ⟨rfl, rfl⟩
        · obtain ⟨_, ⟨A, n, c, e, hs⟩, _⟩ := hd
          rw [e]
          have C := spec_l03Make r.num.neg A n c _ _ wq hs (dig_can _) (by rw [← hs.1]; exact Nat.le_trans (mul_len VR.out.mag.1 VS.out.den.1 VR.out.num24 VS.out.den24) (by decide))
          rw [nd_mk VR.out.mag.1 VS.out.den.1 hs.1] at C
          exact gives_agg C
      refine walkM_new #[.bool false, .slice none 0 0] 41 ?_ ?_
      · intro yq zq wq hC hd
        refine ⟨by go_simp; done, ?_⟩
        go_simp
      intro yq zq wa hC hd hdis0
      have hdis := hid hdis0
      clear hdis0
      simp at hd
      have q9 := hd.2.2.2.2.2.2.2.2.2.1
      have q10 := hd.2.2.2.2.2.2.2.2.2.2
      obtain ⟨⟨ha9, hf9⟩, hr9⟩ := q9
      obtain ⟨B1, B2, B3, Bt, e9, hz9, hs9⟩ := TBigInt.agg ha9
      obtain ⟨⟨g, e10, hz10, hg⟩, hr10⟩ := q10
      have hgt : ∀ b ∈ Bt, b ≠ g := fun b hb e => by
        have := hdis.out 9 10 (by decide) (by decide) (by decide) b (by rw [hz9]; exact hb)
        rw [hz10] at this; simp at this; exact this e
      rw [hz9] at hf9 hr9
      have hgw : w1.heap.size ≤ g ∧ g < wa.heap.size := by have := hr10 g (by rw [hz10]; simp); omega
      have hgw1 := hgw.1
      obtain ⟨G0, F0⟩ := box_cell hg (j := 0) rfl
      obtain ⟨G1, F1⟩ := box_cell hg (j := 1) rfl
      obtain ⟨k1, k2⟩ := keep_sl hs9 hf9 hgt (.bool (encI (numv r * denv s)).neg) (.slice B1 B2 B3)
      have HK4 := hid k1
      clear hd hdis hs9 hf9 hr9 hr10 hg hgt k1 k2 ha9 hz9 hz10
      have hb4 : Below w.heap.size w ((wa.setCell ⟨g, 0, none⟩ (.bool (encI (numv r * denv s)).neg)).setCell ⟨g, 1, none⟩ (.slice B1 B2 B3)) := by (repeat (first | (with_reducible exact Below.refl _ _) | ((with_reducible refine Below.set ?_ ?_ _); rotate_left; (simp <;> omega)) | (with_reducible refine Below.box_ ?_ _) | (with_reducible refine Below.next ?_ (by assumption))))
      have K1 : ((wa.setCell ⟨g, 0, none⟩ (.bool (encI (numv r * denv s)).neg)).setCell ⟨g, 1, none⟩ (.slice B1 B2 B3)).cell? ⟨g, 1, none⟩ = some (.slice B1 B2 B3) :=
        World.cell?_setCell_same _ _ _ ((World.cell?_setCell_other wa ⟨g, 0, none⟩ ⟨g, 1, none⟩ _ (by simp)).trans G1)
      have K0 : ((wa.setCell ⟨g, 0, none⟩ (.bool (encI (numv r * denv s)).neg)).setCell ⟨g, 1, none⟩ (.slice B1 B2 B3)).cell? ⟨g, 0, none⟩ = some (.bool (encI (numv r * denv s)).neg) :=
        (World.cell?_setCell_other _ ⟨g, 1, none⟩ ⟨g, 0, none⟩ _ (by simp)).trans (World.cell?_setCell_same _ _ _ G0)
      have HBn4 := hid (show Below w1.heap.size w1 ((wa.setCell ⟨g, 0, none⟩ (.bool (encI (numv r * denv s)).neg)).setCell ⟨g, 1, none⟩ (.slice B1 B2 B3)) from (hC.setCell (p := ⟨g, 0, none⟩) hgw1 _).setCell (p := ⟨g, 1, none⟩) hgw1 _)
      have HKa4 := hid K0; have HKb4 := hid K1; have HB4 := hid hb4
      have HZ4 := hid (show ((wa.setCell ⟨g, 0, none⟩ (.bool (encI (numv r * denv s)).neg)).setCell ⟨g, 1, none⟩ (.slice B1 B2 B3)).heap.size = wa.heap.size by simp)
      have hgl4 := hgw.2
      clear K0 K1 hb4
      obtain ⟨hc_wa, hf_wa⟩ := bcell hC
      have hz0_wa : w.heap.size < wa.heap.size := by have := hC.size; (try simp at this); omega
      have hz1_wa : w.heap.size + 1 < wa.heap.size := by have := hC.size; (try simp at this); omega
      have hz2_wa : w.heap.size + 1 + 1 < wa.heap.size := by have := hC.size; (try simp at this); omega
      go_wp2_with fail
      generalize ((wa.setCell ⟨g, 0, none⟩ (.bool (encI (numv r * denv s)).neg)).setCell ⟨g, 1, none⟩ (.slice B1 B2 B3)) = W4 at *
      have hgm4 : g < W4.heap.size := by have := HZ4.out; omega
      have kka4 := HKa4.out
      have kkb4 := HKb4.out
      obtain ⟨hc_W4, hf_W4⟩ := bcell HBn4.out
      have hz4s : w1.heap.size ≤ W4.heap.size := HBn4.out.size
      have hz4a : w.heap.size < W4.heap.size := by omega
      have hz4b : w.heap.size + 1 < W4.heap.size := by omega
      have hz4c : w.heap.size + 1 + 1 < W4.heap.size := by omega
      clear G0 G1 F0 F1 hc_wa hf_wa e9 e10 hC hz0_wa hz1_wa hz2_wa hgw hgw1
      have hbW4 := HB4.out
      refine wp_region_last (by simp) (by kernel_rfl) (by kernel_rfl) (by kernel_rfl) (by kernel_rfl) ?_
      dsimp only [List.dropLast, List.getLast, List.length]
      iterate 8
        apply walkM_eq
        case h =>
          intro yq zq wq hC hd
          obtain ⟨hcq, hfq⟩ := bcell hC
          simp at hd
          refine ⟨by go_simp; done, ?_⟩
          go_simp
          first | (go_ints; exact rfl) | (go_ints; rw [if_pos (by omega)]; try exact rfl) | exact rfl | (rw [if_pos (by omega)]; try exact rfl)
      refine walkM_call (MP.sl (dig (val s.num.mag * val r.den).toNat)) ?_ ?_
      · intro yq zq wq hC hd
        obtain ⟨hcq, hfq⟩ := bcell hC
        simp at hd
        refine ⟨by go_simp; done, ?_⟩
        apply Exists.intro
        apply Exists.intro
        constructor
        · go_simp
          exact ⟨rfl, rfl⟩
        · exact gives_sl ((spec_l02Mul A3 A2 n3 n2 c3 c2 s.num.mag r.den _ _ wq (Sl.below H3.out (by (repeat (first | (with_reducible exact Below.refl _ _) | ((with_reducible refine Below.set ?_ ?_ _); rotate_left; (simp <;> omega)) | (with_reducible refine Below.box_ ?_ _) | (with_reducible refine Below.next ?_ (by assumption)))))) (Sl.below H2.out (by (repeat (first | (with_reducible exact Below.refl _ _) | ((with_reducible refine Below.set ?_ ?_ _); rotate_left; (simp <;> omega)) | (with_reducible refine Below.box_ ?_ _) | (with_reducible refine Below.next ?_ (by assumption)))))) VS.out.mag.1 VR.out.den.1 N3.out N2.out).mono fun _ _ h => row_gives (dig_can _).1.i64 h)
      refine walkM_call (MP.agg (encI (numv s * denv r))) ?_ ?_
      · intro yq zq wq hC hd
        obtain ⟨hcq, hfq⟩ := bcell hC
        simp at hd
        refine ⟨by go_simp; done, ?_⟩
        apply Exists.intro
        apply Exists.intro
        constructor
        · go_simp
          exact ⟨rfl, rfl⟩
        · obtain ⟨_, ⟨A, n, c, e, hs⟩, _⟩ := hd
          rw [e]
          have C := spec_l03Make s.num.neg A n c _ _ wq hs (dig_can _) (by rw [← hs.1]; exact Nat.le_trans (mul_len VS.out.mag.1 VR.out.den.1 VS.out.num24 VR.out.den24) (by decide))
          rw [nd_mk VS.out.mag.1 VR.out.den.1 hs.1] at C
          exact gives_agg C
      refine walkM_new #[.bool false, .slice none 0 0] 41 ?_ ?_
      · intro yq zq wq hC hd
        refine ⟨by go_simp; done, ?_⟩
        go_simp
      intro yq zq wb hC hd hdis0
      have hdis := hid hdis0
      clear hdis0
      simp at hd
      have q9 := hd.2.2.2.2.2.2.2.2.2.1
      have q10 := hd.2.2.2.2.2.2.2.2.2.2
      obtain ⟨⟨ha9, hf9⟩, hr9⟩ := q9
      obtain ⟨D1, D2, D3, Dt, e9, hz9, hs9⟩ := TBigInt.agg ha9
      obtain ⟨⟨g5, e10, hz10, hg⟩, hr10⟩ := q10
      have hgt : ∀ b ∈ Dt, b ≠ g5 := fun b hb e => by
        have := hdis.out 9 10 (by decide) (by decide) (by decide) b (by rw [hz9]; exact hb)
        rw [hz10] at this; simp at this; exact this e
      rw [hz9] at hf9 hr9
      have hgw : W4.heap.size ≤ g5 ∧ g5 < wb.heap.size := by have := hr10 g5 (by rw [hz10]; simp); omega
      have hgw1 := hgw.1
      obtain ⟨G0, F0⟩ := box_cell hg (j := 0) rfl
      obtain ⟨G1, F1⟩ := box_cell hg (j := 1) rfl
      obtain ⟨k1, k2⟩ := keep_sl hs9 hf9 hgt (.bool (encI (numv s * denv r)).neg) (.slice D1 D2 D3)
      have HK5 := hid k1
      clear hd hdis hs9 hf9 hr9 hr10 hg hgt k1 k2 ha9 hz9 hz10
      have hb4 : Below w.heap.size w ((wb.setCell ⟨g5, 0, none⟩ (.bool (encI (numv s * denv r)).neg)).setCell ⟨g5, 1, none⟩ (.slice D1 D2 D3)) := by (repeat (first | (with_reducible exact Below.refl _ _) | ((with_reducible refine Below.set ?_ ?_ _); rotate_left; (simp <;> omega)) | (with_reducible refine Below.box_ ?_ _) | (with_reducible refine Below.next ?_ (by assumption))))
      have K1 : ((wb.setCell ⟨g5, 0, none⟩ (.bool (encI (numv s * denv r)).neg)).setCell ⟨g5, 1, none⟩ (.slice D1 D2 D3)).cell? ⟨g5, 1, none⟩ = some (.slice D1 D2 D3) :=
        World.cell?_setCell_same _ _ _ ((World.cell?_setCell_other wb ⟨g5, 0, none⟩ ⟨g5, 1, none⟩ _ (by simp)).trans G1)
      have K0 : ((wb.setCell ⟨g5, 0, none⟩ (.bool (encI (numv s * denv r)).neg)).setCell ⟨g5, 1, none⟩ (.slice D1 D2 D3)).cell? ⟨g5, 0, none⟩ = some (.bool (encI (numv s * denv r)).neg) :=
        (World.cell?_setCell_other _ ⟨g5, 1, none⟩ ⟨g5, 0, none⟩ _ (by simp)).trans (World.cell?_setCell_same _ _ _ G0)
      have HBn5 := hid (show Below W4.heap.size W4 ((wb.setCell ⟨g5, 0, none⟩ (.bool (encI (numv s * denv r)).neg)).setCell ⟨g5, 1, none⟩ (.slice D1 D2 D3)) from (hC.setCell (p := ⟨g5, 0, none⟩) hgw1 _).setCell (p := ⟨g5, 1, none⟩) hgw1 _)
      have HKa5 := hid K0; have HKb5 := hid K1; have HB5 := hid hb4
      have HZ5 := hid (show ((wb.setCell ⟨g5, 0, none⟩ (.bool (encI (numv s * denv r)).neg)).setCell ⟨g5, 1, none⟩ (.slice D1 D2 D3)).heap.size = wb.heap.size by simp)
      have hgl5 := hgw.2
      clear K0 K1 hb4
      obtain ⟨hc_wb, hf_wb⟩ := bcell hC
      have hz0_wb : w.heap.size < wb.heap.size := by have := hC.size; (try simp at this); omega
      have hz1_wb : w.heap.size + 1 < wb.heap.size := by have := hC.size; (try simp at this); omega
      have hz2_wb : w.heap.size + 1 + 1 < wb.heap.size := by have := hC.size; (try simp at this); omega
      go_wp2_with fail
      generalize ((wb.setCell ⟨g5, 0, none⟩ (.bool (encI (numv s * denv r)).neg)).setCell ⟨g5, 1, none⟩ (.slice D1 D2 D3)) = W5 at *
      have hgm5 : g5 < W5.heap.size := by have := HZ5.out; omega
      have kka5 := HKa5.out
      have kkb5 := HKb5.out
      obtain ⟨hc_W5, hf_W5⟩ := bcell HBn5.out
      have hz5s : W4.heap.size ≤ W5.heap.size := HBn5.out.size
      have hz5a : w.heap.size < W5.heap.size := by omega
      have hz5b : w.heap.size + 1 < W5.heap.size := by omega
      have hz5c : w.heap.size + 1 + 1 < W5.heap.size := by omega
      clear G0 G1 F0 F1 hc_wb hf_wb e9 e10 hC hz0_wb hz1_wb hz2_wb hgw hgw1
      have hbW5 := HB5.out
      have bb5 : Below w.heap.size w W5 := hbW5
      have T4 := hid (show (encI (numv r * denv s)).mag.length ≤ 59 from Nat.le_trans (enc_len (len_mul VR.out.numlt VS.out.denlt)) (by decide))
      have T5 := hid (show (encI (numv s * denv r)).mag.length ≤ 59 from Nat.le_trans (enc_len (len_mul VS.out.numlt VR.out.denlt)) (by decide))
      have T6 := hid (show (encI (numv r * denv s + numv s * denv r)).mag.length ≤ 65536 by
        have h := enc_len (len_add (len_mul VR.out.numlt VS.out.denlt) (len_mul VS.out.numlt VR.out.denlt))
        omega)
      go_wp2_with fail
      have C := spec_l03Add _ _ (encI (numv r * denv s)) (encI (numv s * denv r)) _ _ W5 (TBigInt.mkAgg (Sl.below HK4.out HBn5.out)) (TBigInt.mkAgg HK5.out) (encI_can _) (encI_can _) T4.out T5.out
      rw [ival_enc, ival_enc] at C
      refine C.mono ?_
      clear C
      rintro _ w6 ⟨v6, s6, rfl, ha6, ho6, hb6⟩
      obtain ⟨E1, E2, E3, Et, rfl, hz, hs6⟩ := TBigInt.agg ha6
      have HS6 := hid hs6
      clear ha6 ho6 hz hs6 kka4 kkb4 kka5 kkb5
      obtain ⟨hc_w6, hf_w6⟩ := bcell hb6
      have hz0_w6 : w.heap.size < w6.heap.size := by have := hb6.size; (try simp at this); omega
      have hz1_w6 : w.heap.size + 1 < w6.heap.size := by have := hb6.size; (try simp at this); omega
      have hz2_w6 : w.heap.size + 1 + 1 < w6.heap.size := by have := hb6.size; (try simp at this); omega
      go_wp2_with fail
      have bb6 : Below w.heap.size w w6 := Below.next bb5 hb6
      refine wp_region_last (by simp) (by kernel_rfl) (by kernel_rfl) (by kernel_rfl) (by kernel_rfl) ?_
      dsimp only [List.dropLast, List.getLast, List.length]
      iterate 8
        apply walkM_eq
        case h =>
          intro yq zq wq hC hd
          obtain ⟨hcq, hfq⟩ := bcell hC
          simp at hd
          refine ⟨by go_simp; done, ?_⟩
          go_simp
          first | (go_ints; exact rfl) | (go_ints; rw [if_pos (by omega)]; try exact rfl) | exact rfl | (rw [if_pos (by omega)]; try exact rfl)
      refine walkM_call (MP.sl (dig (denv r * denv s).toNat)) ?_ ?_
      · intro yq zq wq hC hd
        obtain ⟨hcq, hfq⟩ := bcell hC
        simp at hd
        refine ⟨by go_simp; done, ?_⟩
        apply Exists.intro
        apply Exists.intro
        constructor
        · go_simp
          exact ⟨rfl, rfl⟩
        · exact gives_sl ((spec_l02Mul A2 A4 n2 n4 c2 c4 r.den s.den _ _ wq (Sl.below H2.out (by (repeat (first | (with_reducible exact Below.refl _ _) | ((with_reducible refine Below.set ?_ ?_ _); rotate_left; (simp <;> omega)) | (with_reducible refine Below.box_ ?_ _) | (with_reducible refine Below.next ?_ (by assumption)))))) (Sl.below H4.out (by (repeat (first | (with_reducible exact Below.refl _ _) | ((with_reducible refine Below.set ?_ ?_ _); rotate_left; (simp <;> omega)) | (with_reducible refine Below.box_ ?_ _) | (with_reducible refine Below.next ?_ (by assumption)))))) VR.out.den.1 VS.out.den.1 N2.out N4.out).mono fun _ _ h => row_gives (dig_can _).1.i64 h)
      refine walkM_call (MP.agg (mkR (numv r * denv s + numv s * denv r) (denv r * denv s))) ?_ ?_
      · intro yq zq wq hC hd
        obtain ⟨hcq, hfq⟩ := bcell hC
        simp at hd
        refine ⟨by go_simp; done, ?_⟩
        apply Exists.intro
        apply Exists.intro
        constructor
        · go_simp
          exact ⟨rfl, rfl⟩
        · obtain ⟨_, _, ⟨A', n', c', e', hs'⟩, _⟩ := hd
          rw [e']
          have C := spec_l04Low (encI (numv r * denv s + numv s * denv r)).neg E1 A' E2 n' E3 c' (encI (numv r * denv s + numv s * denv r)).mag _ _ _ wq (Sl.below (Sl.below HS6.out (Below.box _)) hC) hs' (encI_can _) (dig_can _) (by rw [← hs'.1]; exact DD.out.pos) (by rw [← HS6.out.1]; exact T6.out) (by rw [← hs'.1]; exact DD.out.le)
          rw [show sval (encI (numv r * denv s + numv s * denv r)).neg (encI (numv r * denv s + numv s * denv r)).mag = numv r * denv s + numv s * denv r from ival_enc _, DD.out.v] at C
          exact gives_agg C
      intro yq zq wc hC hd hdis0
      have hdis := hid hdis0
      clear hdis0
      simp at hd
      have q9 := hd.2.2.2.2.2.2.2.2.2
      obtain ⟨⟨ha, hf⟩, hr⟩ := q9
      obtain ⟨P1, P2, P3, Pt, Q1, Q2, Q3, Qt, e9, hz, hs1, hs2⟩ := TRat.agg ha
      have HA := hid ha; have HF := hid hf; have HR := hid hr
      clear hd hdis hz hs1 hs2 ha hf hr
      have HL := hid (show w.heap.size + 3 ≤ (w6.alloc (.cells #[.bool (encI (numv r * denv s + numv s * denv r)).neg, .slice E1 E2 E3] 41)).heap.size by simp; omega)
      obtain ⟨hc_wc, hf_wc⟩ := bcell hC
      have hz0_wc : w.heap.size < wc.heap.size := by have := hC.size; simp at this; omega
      have hz1_wc : w.heap.size + 1 < wc.heap.size := by have := hC.size; simp at this; omega
      have hz2_wc : w.heap.size + 1 + 1 < wc.heap.size := by have := hC.size; simp at this; omega
      have hzz : w.heap.size + 1 + 1 < w6.heap.size + 1 := by omega
      go_wp2
      refine bodyPost_ret (v := .agg #[.bool (mkR (numv r * denv s + numv s * denv r) (denv r * denv s)).num.neg, .slice P1 P2 P3, .slice Q1 Q2 Q3]) (by simp [results, Tryz.results76, go_sem, *]) rfl ?_
      rw [e9] at HA
      refine agg_fin (lo := w.heap.size + 3) HA.out HF.out (fun b hb => by have := (HR.out b hb).1; have := HL.out; omega) (by omega) ?_ ?_
      · (repeat (first | (with_reducible exact Above.refl _ _) | ((with_reducible refine Above.set ?_ ?_ _); rotate_left; (simp <;> omega)) | (with_reducible refine Above.box ?_ _) | (with_reducible refine Above.below ?_ (by assumption))))
      · (repeat (first | (with_reducible exact Below.refl _ _) | ((with_reducible refine Below.set ?_ ?_ _); rotate_left; (simp <;> omega)) | (with_reducible refine Below.box_ ?_ _) | (with_reducible refine Below.next ?_ (by assumption))))
end Go.Proofs.YthlpjpcnpcclhaaGreat.X

/- The reference's fractions: RatAdd, RatSub. -/
namespace Go.Proofs.YthlpjpcnpcclhaaGreat.X
open Go.RowKit Go.XB Go.XN
attribute [local go_sem] fillBy opAt deps depOf Region.wanted yielded
attribute [local simp] deps depOf MP.eq MP.agg MP.sl Facts
set_option linter.constructorNameAsVariable false


set_option maxHeartbeats 2000000 in
set_option maxRecDepth 10000 in
theorem spec_RatAdd (v1 v2 : Value) (r s : TRat) (b1 b2 : List Nat) (w : World) (hx : Agg w v1 r b1) (hy : Agg w v2 s b2) :
    Calls Tryz.prog 43 #[v1, v2] w (GivesAgg w (radd r s)) := by
  have HX := hid hx; have HY := hid hy
  obtain ⟨A1, n1, c1, s1, A2, n2, c2, s2, rfl, rfl, hs1, hs2⟩ := TRat.agg hx
  obtain ⟨A3, n3, c3, s3, A4, n4, c4, s4, rfl, rfl, hs3, hs4⟩ := TRat.agg hy
  clear hs1 hs2 hs3 hs4 hx hy
  cases hr : ratOkB r
  · have E := hid (show radd r s = zeroR by unfold radd; rw [hr]; rfl)
    have R := hid hr
    clear hr
    go_enter Tryz.func43, Tryz.ntmps43
    go_wp2_with fail
    have C := spec_RatOk _ r _ (((w.alloc (.cells #[.bool r.num.neg, .slice A1 n1 c1, .slice A2 n2 c2] 43)).alloc (.cells #[.bool s.num.neg, .slice A3 n3 c3, .slice A4 n4 c4] 43)).alloc (.cells #[.bool false, .slice none 0 0, .slice none 0 0] 43)) (Agg.below HX.out (by (repeat (first | (with_reducible exact Below.refl _ _) | ((with_reducible refine Below.set ?_ ?_ _); rotate_left; (simp <;> omega)) | (with_reducible refine Below.box_ ?_ _) | (with_reducible refine Below.next ?_ (by assumption))))))
    rw [R.out] at C
    refine C.mono ?_
    clear C
    rintro _ w1 ⟨rfl, hb1⟩
    obtain ⟨hc_w1, hf_w1⟩ := bcell hb1
    have hz0_w1 : w.heap.size < w1.heap.size := by have := hb1.size; (try simp at this); omega
    have hz1_w1 : w.heap.size + 1 < w1.heap.size := by have := hb1.size; (try simp at this); omega
    have hz2_w1 : w.heap.size + 1 + 1 < w1.heap.size := by have := hb1.size; (try simp at this); omega
    go_wp2
    refine bodyPost_ret (v := .agg #[.bool false, .slice none 0 0, .slice none 0 0]) (by simp [results, Tryz.results43, go_sem, *]) rfl ?_
    rw [E.out]
    exact gives_zero (by (repeat (first | (with_reducible exact Below.refl _ _) | ((with_reducible refine Below.set ?_ ?_ _); rotate_left; (simp <;> omega)) | (with_reducible refine Below.box_ ?_ _) | (with_reducible refine Below.next ?_ (by assumption)))))
  cases hs : ratOkB s
  · have E := hid (show radd r s = zeroR by unfold radd; rw [hr, hs]; rfl)
    have R := hid hr; have S := hid hs
    clear hr hs
    go_enter Tryz.func43, Tryz.ntmps43
    go_wp2_with fail
    have C := spec_RatOk _ r _ (((w.alloc (.cells #[.bool r.num.neg, .slice A1 n1 c1, .slice A2 n2 c2] 43)).alloc (.cells #[.bool s.num.neg, .slice A3 n3 c3, .slice A4 n4 c4] 43)).alloc (.cells #[.bool false, .slice none 0 0, .slice none 0 0] 43)) (Agg.below HX.out (by (repeat (first | (with_reducible exact Below.refl _ _) | ((with_reducible refine Below.set ?_ ?_ _); rotate_left; (simp <;> omega)) | (with_reducible refine Below.box_ ?_ _) | (with_reducible refine Below.next ?_ (by assumption))))))
    rw [R.out] at C
    refine C.mono ?_
    clear C
    rintro _ w1 ⟨rfl, hb1⟩
    obtain ⟨hc_w1, hf_w1⟩ := bcell hb1
    have hz0_w1 : w.heap.size < w1.heap.size := by have := hb1.size; (try simp at this); omega
    have hz1_w1 : w.heap.size + 1 < w1.heap.size := by have := hb1.size; (try simp at this); omega
    have hz2_w1 : w.heap.size + 1 + 1 < w1.heap.size := by have := hb1.size; (try simp at this); omega
    go_wp2_with fail
    have C := spec_RatOk _ s _ w1 (Agg.below HY.out (by (repeat (first | (with_reducible exact Below.refl _ _) | ((with_reducible refine Below.set ?_ ?_ _); rotate_left; (simp <;> omega)) | (with_reducible refine Below.box_ ?_ _) | (with_reducible refine Below.next ?_ (by assumption))))))
    rw [S.out] at C
    refine C.mono ?_
    clear C
    rintro _ w2 ⟨rfl, hb2⟩
    obtain ⟨hc_w2, hf_w2⟩ := bcell hb2
    have hz0_w2 : w.heap.size < w2.heap.size := by have := hb2.size; (try simp at this); omega
    have hz1_w2 : w.heap.size + 1 < w2.heap.size := by have := hb2.size; (try simp at this); omega
    have hz2_w2 : w.heap.size + 1 + 1 < w2.heap.size := by have := hb2.size; (try simp at this); omega
    go_wp2
    refine bodyPost_ret (v := .agg #[.bool false, .slice none 0 0, .slice none 0 0]) (by simp [results, Tryz.results43, go_sem, *]) rfl ?_
    rw [E.out]
    exact gives_zero (by (repeat (first | (with_reducible exact Below.refl _ _) | ((with_reducible refine Below.set ?_ ?_ _); rotate_left; (simp <;> omega)) | (with_reducible refine Below.box_ ?_ _) | (with_reducible refine Below.next ?_ (by assumption)))))
  have R := hid hr; have S := hid hs
  have VR := hid (ratOkB_iff.1 hr); have VS := hid (ratOkB_iff.1 hs)
  have E := hid (show radd r s = mkR (numv r * denv s + numv s * denv r) (denv r * denv s) by unfold radd; rw [hr, hs]; rfl)
  clear hr hs
  go_enter Tryz.func43, Tryz.ntmps43
  go_wp2_with fail
  have C := spec_RatOk _ r _ (((w.alloc (.cells #[.bool r.num.neg, .slice A1 n1 c1, .slice A2 n2 c2] 43)).alloc (.cells #[.bool s.num.neg, .slice A3 n3 c3, .slice A4 n4 c4] 43)).alloc (.cells #[.bool false, .slice none 0 0, .slice none 0 0] 43)) (Agg.below HX.out (by (repeat (first | (with_reducible exact Below.refl _ _) | ((with_reducible refine Below.set ?_ ?_ _); rotate_left; (simp <;> omega)) | (with_reducible refine Below.box_ ?_ _) | (with_reducible refine Below.next ?_ (by assumption))))))
  rw [R.out] at C
  refine C.mono ?_
  clear C
  rintro _ w1 ⟨rfl, hb1⟩
  obtain ⟨hc_w1, hf_w1⟩ := bcell hb1
  have hz0_w1 : w.heap.size < w1.heap.size := by have := hb1.size; (try simp at this); omega
  have hz1_w1 : w.heap.size + 1 < w1.heap.size := by have := hb1.size; (try simp at this); omega
  have hz2_w1 : w.heap.size + 1 + 1 < w1.heap.size := by have := hb1.size; (try simp at this); omega
  go_wp2_with fail
  have C := spec_RatOk _ s _ w1 (Agg.below HY.out (by (repeat (first | (with_reducible exact Below.refl _ _) | ((with_reducible refine Below.set ?_ ?_ _); rotate_left; (simp <;> omega)) | (with_reducible refine Below.box_ ?_ _) | (with_reducible refine Below.next ?_ (by assumption))))))
  rw [S.out] at C
  refine C.mono ?_
  clear C
  rintro _ w2 ⟨rfl, hb2⟩
  obtain ⟨hc_w2, hf_w2⟩ := bcell hb2
  have hz0_w2 : w.heap.size < w2.heap.size := by have := hb2.size; (try simp at this); omega
  have hz1_w2 : w.heap.size + 1 < w2.heap.size := by have := hb2.size; (try simp at this); omega
  have hz2_w2 : w.heap.size + 1 + 1 < w2.heap.size := by have := hb2.size; (try simp at this); omega
  go_wp2_with fail
  refine (spec_l04Add _ _ r s _ _ w2 (Agg.below HX.out (by (repeat (first | (with_reducible exact Below.refl _ _) | ((with_reducible refine Below.set ?_ ?_ _); rotate_left; (simp <;> omega)) | (with_reducible refine Below.box_ ?_ _) | (with_reducible refine Below.next ?_ (by assumption)))))) (Agg.below HY.out (by (repeat (first | (with_reducible exact Below.refl _ _) | ((with_reducible refine Below.set ?_ ?_ _); rotate_left; (simp <;> omega)) | (with_reducible refine Below.box_ ?_ _) | (with_reducible refine Below.next ?_ (by assumption)))))) VR.out VS.out).mono ?_
  rintro _ w4 ⟨v4, s5, rfl, ha4, ho4, hb4⟩
  obtain ⟨B1, m1, d1, t1, B2, m2, d2, t2, rfl, hz, _, _⟩ := TRat.agg ha4
  have HA := hid ha4; have HO := hid ho4
  have HL := hid (show w.heap.size + 3 ≤ w2.heap.size by omega)
  clear ha4 ho4 hz
  obtain ⟨hc_w4, hf_w4⟩ := bcell hb4
  have hz0_w4 : w.heap.size < w4.heap.size := by have := hb4.size; (try simp at this); omega
  have hz1_w4 : w.heap.size + 1 < w4.heap.size := by have := hb4.size; (try simp at this); omega
  have hz2_w4 : w.heap.size + 1 + 1 < w4.heap.size := by have := hb4.size; (try simp at this); omega
  go_wp2
  refine bodyPost_ret (v := .agg #[.bool (mkR (numv r * denv s + numv s * denv r) (denv r * denv s)).num.neg, .slice B1 m1 d1, .slice B2 m2 d2]) (by simp [results, Tryz.results43, go_sem, *]) rfl ?_
  rw [E.out]
  refine agg_fin (lo := w.heap.size + 3) HA.out HO.out.free (fun b hb => by have := (HO.out.range b hb).1; have := HL.out; omega) (by omega) ?_ ?_
  · (repeat (first | (with_reducible exact Above.refl _ _) | ((with_reducible refine Above.set ?_ ?_ _); rotate_left; (simp <;> omega)) | (with_reducible refine Above.box ?_ _) | (with_reducible refine Above.below ?_ (by assumption))))
  · (repeat (first | (with_reducible exact Below.refl _ _) | ((with_reducible refine Below.set ?_ ?_ _); rotate_left; (simp <;> omega)) | (with_reducible refine Below.box_ ?_ _) | (with_reducible refine Below.next ?_ (by assumption))))

set_option maxHeartbeats 2000000 in
set_option maxRecDepth 10000 in
theorem spec_RatSub (v1 v2 : Value) (r s : TRat) (b1 b2 : List Nat) (w : World) (hx : Agg w v1 r b1) (hy : Agg w v2 s b2) :
    Calls Tryz.prog 142 #[v1, v2] w (GivesAgg w (rsub r s)) := by
  have HX := hid hx; have HY := hid hy
  obtain ⟨A1, n1, c1, s1, A2, n2, c2, s2, rfl, rfl, hs1, hs2⟩ := TRat.agg hx
  obtain ⟨A3, n3, c3, s3, A4, n4, c4, s4, rfl, rfl, hs3, hs4⟩ := TRat.agg hy
  clear hs1 hs2 hs3 hs4 hx hy
  cases hr : ratOkB r
  · have E := hid (show rsub r s = zeroR by unfold rsub; rw [hr]; rfl)
    have R := hid hr
    clear hr
    go_enter Tryz.func142, Tryz.ntmps142
    go_wp2_with fail
    have C := spec_RatOk _ r _ (((w.alloc (.cells #[.bool r.num.neg, .slice A1 n1 c1, .slice A2 n2 c2] 43)).alloc (.cells #[.bool s.num.neg, .slice A3 n3 c3, .slice A4 n4 c4] 43)).alloc (.cells #[.bool false, .slice none 0 0, .slice none 0 0] 43)) (Agg.below HX.out (by (repeat (first | (with_reducible exact Below.refl _ _) | ((with_reducible refine Below.set ?_ ?_ _); rotate_left; (simp <;> omega)) | (with_reducible refine Below.box_ ?_ _) | (with_reducible refine Below.next ?_ (by assumption))))))
    rw [R.out] at C
    refine C.mono ?_
    clear C
    rintro _ w1 ⟨rfl, hb1⟩
    obtain ⟨hc_w1, hf_w1⟩ := bcell hb1
    have hz0_w1 : w.heap.size < w1.heap.size := by have := hb1.size; (try simp at this); omega
    have hz1_w1 : w.heap.size + 1 < w1.heap.size := by have := hb1.size; (try simp at this); omega
    have hz2_w1 : w.heap.size + 1 + 1 < w1.heap.size := by have := hb1.size; (try simp at this); omega
    go_wp2
    refine bodyPost_ret (v := .agg #[.bool false, .slice none 0 0, .slice none 0 0]) (by simp [results, Tryz.results142, go_sem, *]) rfl ?_
    rw [E.out]
    exact gives_zero (by (repeat (first | (with_reducible exact Below.refl _ _) | ((with_reducible refine Below.set ?_ ?_ _); rotate_left; (simp <;> omega)) | (with_reducible refine Below.box_ ?_ _) | (with_reducible refine Below.next ?_ (by assumption)))))
  cases hs : ratOkB s
  · have E := hid (show rsub r s = zeroR by unfold rsub; rw [hr, hs]; rfl)
    have R := hid hr; have S := hid hs
    clear hr hs
    go_enter Tryz.func142, Tryz.ntmps142
    go_wp2_with fail
    have C := spec_RatOk _ r _ (((w.alloc (.cells #[.bool r.num.neg, .slice A1 n1 c1, .slice A2 n2 c2] 43)).alloc (.cells #[.bool s.num.neg, .slice A3 n3 c3, .slice A4 n4 c4] 43)).alloc (.cells #[.bool false, .slice none 0 0, .slice none 0 0] 43)) (Agg.below HX.out (by (repeat (first | (with_reducible exact Below.refl _ _) | ((with_reducible refine Below.set ?_ ?_ _); rotate_left; (simp <;> omega)) | (with_reducible refine Below.box_ ?_ _) | (with_reducible refine Below.next ?_ (by assumption))))))
    rw [R.out] at C
    refine C.mono ?_
    clear C
    rintro _ w1 ⟨rfl, hb1⟩
    obtain ⟨hc_w1, hf_w1⟩ := bcell hb1
    have hz0_w1 : w.heap.size < w1.heap.size := by have := hb1.size; (try simp at this); omega
    have hz1_w1 : w.heap.size + 1 < w1.heap.size := by have := hb1.size; (try simp at this); omega
    have hz2_w1 : w.heap.size + 1 + 1 < w1.heap.size := by have := hb1.size; (try simp at this); omega
    go_wp2_with fail
    have C := spec_RatOk _ s _ w1 (Agg.below HY.out (by (repeat (first | (with_reducible exact Below.refl _ _) | ((with_reducible refine Below.set ?_ ?_ _); rotate_left; (simp <;> omega)) | (with_reducible refine Below.box_ ?_ _) | (with_reducible refine Below.next ?_ (by assumption))))))
    rw [S.out] at C
    refine C.mono ?_
    clear C
    rintro _ w2 ⟨rfl, hb2⟩
    obtain ⟨hc_w2, hf_w2⟩ := bcell hb2
    have hz0_w2 : w.heap.size < w2.heap.size := by have := hb2.size; (try simp at this); omega
    have hz1_w2 : w.heap.size + 1 < w2.heap.size := by have := hb2.size; (try simp at this); omega
    have hz2_w2 : w.heap.size + 1 + 1 < w2.heap.size := by have := hb2.size; (try simp at this); omega
    go_wp2
    refine bodyPost_ret (v := .agg #[.bool false, .slice none 0 0, .slice none 0 0]) (by simp [results, Tryz.results142, go_sem, *]) rfl ?_
    rw [E.out]
    exact gives_zero (by (repeat (first | (with_reducible exact Below.refl _ _) | ((with_reducible refine Below.set ?_ ?_ _); rotate_left; (simp <;> omega)) | (with_reducible refine Below.box_ ?_ _) | (with_reducible refine Below.next ?_ (by assumption)))))
  have R := hid hr; have S := hid hs
  have VR := hid (ratOkB_iff.1 hr); have VS := hid (ratOkB_iff.1 hs)
  have E := hid (show rsub r s = mkR (numv r * denv s - numv s * denv r) (denv r * denv s) by unfold rsub; rw [hr, hs]; rfl)
  clear hr hs
  go_enter Tryz.func142, Tryz.ntmps142
  go_wp2_with fail
  have C := spec_RatOk _ r _ (((w.alloc (.cells #[.bool r.num.neg, .slice A1 n1 c1, .slice A2 n2 c2] 43)).alloc (.cells #[.bool s.num.neg, .slice A3 n3 c3, .slice A4 n4 c4] 43)).alloc (.cells #[.bool false, .slice none 0 0, .slice none 0 0] 43)) (Agg.below HX.out (by (repeat (first | (with_reducible exact Below.refl _ _) | ((with_reducible refine Below.set ?_ ?_ _); rotate_left; (simp <;> omega)) | (with_reducible refine Below.box_ ?_ _) | (with_reducible refine Below.next ?_ (by assumption))))))
  rw [R.out] at C
  refine C.mono ?_
  clear C
  rintro _ w1 ⟨rfl, hb1⟩
  obtain ⟨hc_w1, hf_w1⟩ := bcell hb1
  have hz0_w1 : w.heap.size < w1.heap.size := by have := hb1.size; (try simp at this); omega
  have hz1_w1 : w.heap.size + 1 < w1.heap.size := by have := hb1.size; (try simp at this); omega
  have hz2_w1 : w.heap.size + 1 + 1 < w1.heap.size := by have := hb1.size; (try simp at this); omega
  go_wp2_with fail
  have C := spec_RatOk _ s _ w1 (Agg.below HY.out (by (repeat (first | (with_reducible exact Below.refl _ _) | ((with_reducible refine Below.set ?_ ?_ _); rotate_left; (simp <;> omega)) | (with_reducible refine Below.box_ ?_ _) | (with_reducible refine Below.next ?_ (by assumption))))))
  rw [S.out] at C
  refine C.mono ?_
  clear C
  rintro _ w2 ⟨rfl, hb2⟩
  obtain ⟨hc_w2, hf_w2⟩ := bcell hb2
  have hz0_w2 : w.heap.size < w2.heap.size := by have := hb2.size; (try simp at this); omega
  have hz1_w2 : w.heap.size + 1 < w2.heap.size := by have := hb2.size; (try simp at this); omega
  have hz2_w2 : w.heap.size + 1 + 1 < w2.heap.size := by have := hb2.size; (try simp at this); omega
  go_wp2_with fail
  refine wp_region_last (by simp) (by kernel_rfl) (by kernel_rfl) (by kernel_rfl) (by kernel_rfl) ?_
  dsimp only [List.dropLast, List.getLast, List.length]
  iterate 2
    apply walkM_eq
    case h =>
      intro yq zq wq hC hd
      obtain ⟨hcq, hfq⟩ := bcell hC
      simp at hd
      refine ⟨by go_simp; done, ?_⟩
      go_simp
      first | (go_ints; exact rfl) | (go_ints; rw [if_pos (by omega)]; try exact rfl) | exact rfl | (rw [if_pos (by omega)]; try exact rfl)
  refine walkM_call (MP.agg (⟨encI (-numv s), s.den⟩ : TRat)) ?_ ?_
  · intro yq zq wq hC hd
    obtain ⟨hcq, hfq⟩ := bcell hC
    simp at hd
    refine ⟨by go_simp; done, ?_⟩
    apply Exists.intro
    apply Exists.intro
    constructor
    · go_simp
      exact ⟨rfl, rfl⟩
    · exact gives_agg (spec_l04Neg _ s _ wq (Agg.below HY.out (by (repeat (first | (with_reducible exact Below.refl _ _) | ((with_reducible refine Below.set ?_ ?_ _); rotate_left; (simp <;> omega)) | (with_reducible refine Below.box_ ?_ _) | (with_reducible refine Below.next ?_ (by assumption)))))) VS.out)
  refine walkM_call (MP.agg (mkR (numv r * denv s - numv s * denv r) (denv r * denv s))) ?_ ?_
  · intro yq zq wq hC hd
    obtain ⟨hcq, hfq⟩ := bcell hC
    simp at hd
    refine ⟨by go_simp; done, ?_⟩
    apply Exists.intro
    apply Exists.intro
    constructor
    · go_simp
      exact ⟨rfl, rfl⟩
    · obtain ⟨_, t, _⟩ := hd
      have C := spec_l04Add _ _ r ⟨encI (-numv s), s.den⟩ _ _ wq (Agg.below HX.out (by (repeat (first | (with_reducible exact Below.refl _ _) | ((with_reducible refine Below.set ?_ ?_ _); rotate_left; (simp <;> omega)) | (with_reducible refine Below.box_ ?_ _) | (with_reducible refine Below.next ?_ (by assumption)))))) t VR.out VS.out.neg
      rw [(numv_neg s).1, (numv_neg s).2, Int.neg_mul, ← Int.sub_eq_add_neg] at C
      exact gives_agg C
  intro yq zq wa hC hd hdis0
  have hdis := hid hdis0
  clear hdis0
  simp at hd
  have q3 := hd.2.2.2
  obtain ⟨⟨ha, hf⟩, hr⟩ := q3
  obtain ⟨B3, m3, d3, t3, B4, m4, d4, t4, e3, hz, hs1, hs2⟩ := TRat.agg ha
  have HA := hid ha; have HF := hid hf; have HR := hid hr
  have HL := hid (show w.heap.size + 3 ≤ w2.heap.size by omega)
  clear hd hdis hz hs1 hs2 ha hf hr
  obtain ⟨hc_wa, hf_wa⟩ := bcell hC
  have hz0_wa : w.heap.size < wa.heap.size := by have := hC.size; (try simp at this); omega
  have hz1_wa : w.heap.size + 1 < wa.heap.size := by have := hC.size; (try simp at this); omega
  have hz2_wa : w.heap.size + 1 + 1 < wa.heap.size := by have := hC.size; (try simp at this); omega
  go_wp2
  refine bodyPost_ret (v := .agg #[.bool (mkR (numv r * denv s - numv s * denv r) (denv r * denv s)).num.neg, .slice B3 m3 d3, .slice B4 m4 d4]) (by simp [results, Tryz.results142, go_sem, *]) rfl ?_
  rw [E.out]
  rw [e3] at HA
  refine agg_fin (lo := w.heap.size + 3) HA.out HF.out (fun b hb => by have := (HR.out b hb).1; have := HL.out; omega) (by omega) ?_ ?_
  · (repeat (first | (with_reducible exact Above.refl _ _) | ((with_reducible refine Above.set ?_ ?_ _); rotate_left; (simp <;> omega)) | (with_reducible refine Above.box ?_ _) | (with_reducible refine Above.below ?_ (by assumption))))
  · (repeat (first | (with_reducible exact Below.refl _ _) | ((with_reducible refine Below.set ?_ ?_ _); rotate_left; (simp <;> omega)) | (with_reducible refine Below.box_ ?_ _) | (with_reducible refine Below.next ?_ (by assumption))))
end Go.Proofs.YthlpjpcnpcclhaaGreat.X
