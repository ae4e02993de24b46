/- Texts of reports: the reference and the program. -/
import Derived.Test.YthlpjpcnpcclhaaDoorXTx4
import Derived.Test.YthlpjpcnpcclhaaDoorXTx5
import Derived.Test.YthlpjpcnpcclhaaDoorXTxG
namespace Go.Proofs.YthlpjpcnpcclhaaDoor.X
open Go.RowKit Go.XB Go.XN
attribute [local go_sem] fillBy opAt deps depOf Region.wanted yielded str_app str_app_nil
attribute [local simp] deps depOf MP.eq MP.agg MP.sl Facts
set_option linter.constructorNameAsVariable false

theorem i64_bounds {x : Int} (h : I64 x) : -9223372036854775808 ≤ x ∧ x ≤ 9223372036854775807 := by
  unfold I64 at h; omega
set_option maxHeartbeats 4000000 in
set_option maxRecDepth 10000 in
theorem spec_FormatReport (v : Value) (r : TReport) (b : List Nat) (w : World) (hx : Agg w v r b) :
    Calls Tryd.prog 11 #[v] w (Gives w (.string ⟨(reportTxt r).toArray⟩)) := by
  obtain ⟨A2, n2, c2, s2, A3, n3, c3, s3, A5, n5, c5, s5, A6, n6, c6, s6, rfl, rfl, h0, h2, h3, h5, h6⟩ := TReport.agg hx
  have HV := hid (TRat.mkAgg (x := r.energy) h2 h3); have HQ := hid (TRat.mkAgg (x := r.bound) h5 h6)
  obtain ⟨hi0, hi1⟩ := i64_bounds h0
  have HI0 := hid hi0; have HI1 := hid hi1
  have hl0 : (Lib.itoa r.triangles).length ≤ 20 := itoa_len hi0 hi1
  have hl1 : (ratTxt r.energy).length ≤ 1082 := ratTxt_len _
  have hl2 : (ratTxt r.bound).length ≤ 1082 := ratTxt_len _
  clear h0 h2 h3 h5 h6 hx hi0 hi1
  cases hv : ratOkB r.energy
  · have HB := hid hv
    have E := hid (show [] = reportTxt r by unfold reportTxt; simp [*])
    clear hv
    go_enter Tryd.func11, Tryd.ntmps11
    go_wp2_with fail
    have C := spec_RatOk _ r.energy _ (w.alloc (.cells #[.int .i64 r.triangles, .bool r.energy.num.neg, .slice A2 n2 c2, .slice A3 n3 c3, .bool r.bound.num.neg, .slice A5 n5 c5, .slice A6 n6 c6] 44)) (Agg.below HV.out (by (repeat (first | (with_reducible exact Below.refl _ _) | ((with_reducible refine Below.set ?_ ?_ _); rotate_left; (simp <;> omega)) | (with_reducible refine Below.box_ ?_ _) | (with_reducible refine Below.next ?_ (by assumption))))))
    rw [HB.out] at C
    refine C.mono ?_
    clear C
    rintro _ w1 ⟨rfl, hb1⟩
    obtain ⟨hc_w1, hf_w1⟩ := bcell hb1
    have hz0_w1 : w.heap.size < w1.heap.size := by have := hb1.size; (try simp at this); omega
    go_wp2
    refine bodyPost_ret (results_tmp rfl _ _ _) rfl ⟨?_, by (repeat (first | (with_reducible exact Below.refl _ _) | ((with_reducible refine Below.set ?_ ?_ _); rotate_left; (simp <;> omega)) | (with_reducible refine Below.box_ ?_ _) | (with_reducible refine Below.next ?_ (by assumption))))⟩
    rw [← E.out]; rfl
  cases hq : ratOkB r.bound
  · have HB := hid hv
    have HB2 := hid hq
    have E := hid (show [] = reportTxt r by unfold reportTxt; simp [*])
    clear hv hq
    go_enter Tryd.func11, Tryd.ntmps11
    go_wp2_with fail
    have C := spec_RatOk _ r.energy _ (w.alloc (.cells #[.int .i64 r.triangles, .bool r.energy.num.neg, .slice A2 n2 c2, .slice A3 n3 c3, .bool r.bound.num.neg, .slice A5 n5 c5, .slice A6 n6 c6] 44)) (Agg.below HV.out (by (repeat (first | (with_reducible exact Below.refl _ _) | ((with_reducible refine Below.set ?_ ?_ _); rotate_left; (simp <;> omega)) | (with_reducible refine Below.box_ ?_ _) | (with_reducible refine Below.next ?_ (by assumption))))))
    rw [HB.out] at C
    refine C.mono ?_
    clear C
    rintro _ w1 ⟨rfl, hb1⟩
    obtain ⟨hc_w1, hf_w1⟩ := bcell hb1
    have hz0_w1 : w.heap.size < w1.heap.size := by have := hb1.size; (try simp at this); omega
    go_wp2_with fail
    have C := spec_RatOk _ r.bound _ w1 (Agg.below HQ.out (by (repeat (first | (with_reducible exact Below.refl _ _) | ((with_reducible refine Below.set ?_ ?_ _); rotate_left; (simp <;> omega)) | (with_reducible refine Below.box_ ?_ _) | (with_reducible refine Below.next ?_ (by assumption))))))
    rw [HB2.out] at C
    refine C.mono ?_
    clear C
    rintro _ w2 ⟨rfl, hb2⟩
    obtain ⟨hc_w2, hf_w2⟩ := bcell hb2
    have hz0_w2 : w.heap.size < w2.heap.size := by have := hb2.size; (try simp at this); omega
    go_wp2
    refine bodyPost_ret (results_tmp rfl _ _ _) rfl ⟨?_, by (repeat (first | (with_reducible exact Below.refl _ _) | ((with_reducible refine Below.set ?_ ?_ _); rotate_left; (simp <;> omega)) | (with_reducible refine Below.box_ ?_ _) | (with_reducible refine Below.next ?_ (by assumption))))⟩
    rw [← E.out]; rfl
  · have HB := hid hv
    have HB2 := hid hq
    have E := hid (show Lib.itoa r.triangles ++ [32, 101, 110, 101, 114, 103, 121, 32] ++ ratTxt r.energy ++ [32, 98, 111, 117, 110, 100, 32] ++ ratTxt r.bound = reportTxt r by unfold reportTxt; simp [*])
    clear hv hq
    go_enter Tryd.func11, Tryd.ntmps11
    go_wp2_with fail
    have C := spec_RatOk _ r.energy _ (w.alloc (.cells #[.int .i64 r.triangles, .bool r.energy.num.neg, .slice A2 n2 c2, .slice A3 n3 c3, .bool r.bound.num.neg, .slice A5 n5 c5, .slice A6 n6 c6] 44)) (Agg.below HV.out (by (repeat (first | (with_reducible exact Below.refl _ _) | ((with_reducible refine Below.set ?_ ?_ _); rotate_left; (simp <;> omega)) | (with_reducible refine Below.box_ ?_ _) | (with_reducible refine Below.next ?_ (by assumption))))))
    rw [HB.out] at C
    refine C.mono ?_
    clear C
    rintro _ w1 ⟨rfl, hb1⟩
    obtain ⟨hc_w1, hf_w1⟩ := bcell hb1
    have hz0_w1 : w.heap.size < w1.heap.size := by have := hb1.size; (try simp at this); omega
    go_wp2_with fail
    have C := spec_RatOk _ r.bound _ w1 (Agg.below HQ.out (by (repeat (first | (with_reducible exact Below.refl _ _) | ((with_reducible refine Below.set ?_ ?_ _); rotate_left; (simp <;> omega)) | (with_reducible refine Below.box_ ?_ _) | (with_reducible refine Below.next ?_ (by assumption))))))
    rw [HB2.out] at C
    refine C.mono ?_
    clear C
    rintro _ w2 ⟨rfl, hb2⟩
    obtain ⟨hc_w2, hf_w2⟩ := bcell hb2
    have hz0_w2 : w.heap.size < w2.heap.size := by have := hb2.size; (try simp at this); omega
    go_wp2_with fail
    refine wp_region_last (by simp) (by kernel_rfl) (by kernel_rfl) (by kernel_rfl) (by kernel_rfl) ?_
    dsimp only [List.dropLast, List.getLast, List.length]
    iterate 2
      apply walkM_eq
      case h =>
        intro yq zq wq hC hd
        obtain ⟨hcq, hfq⟩ := bcell hC
        simp at hd
        refine ⟨by go_simp; done, ?_⟩
        go_simp
        first | (go_ints; exact rfl) | (go_ints; rw [if_pos (by omega)]; try exact rfl) | exact rfl | (rw [if_pos (by omega)]; try exact rfl)
    refine walkM_call (MP.eq (.string ⟨(Lib.itoa r.triangles).toArray⟩)) ?_ ?_
    · intro yq zq wq hC hd
      obtain ⟨hcq, hfq⟩ := bcell hC
      simp at hd
      refine ⟨by go_simp; done, ?_⟩
      apply Exists.intro
      apply Exists.intro
      constructor
      · go_simp
        exact ⟨rfl, rfl⟩
      · refine (spec_FormatInt_all r.triangles HI0.out HI1.out wq).mono ?_
        rintro e w' ⟨rfl, hb⟩
        exact ⟨_, rfl, hb, [], ⟨rfl, rfl⟩, fun b hb => by simp at hb⟩
    refine walkM_eq (.string ⟨(Lib.itoa r.triangles ++ [32, 101, 110, 101, 114, 103, 121, 32]).toArray⟩) ?_ ?_
    · intro yq zq wq hC hd
      obtain ⟨hcq, hfq⟩ := bcell hC
      simp at hd
      refine ⟨by go_simp; done, ?_⟩
      go_simp
      omega
    iterate 2
      apply walkM_eq
      case h =>
        intro yq zq wq hC hd
        obtain ⟨hcq, hfq⟩ := bcell hC
        simp at hd
        refine ⟨by go_simp; done, ?_⟩
        go_simp
        first | (go_ints; exact rfl) | (go_ints; rw [if_pos (by omega)]; try exact rfl) | exact rfl | (rw [if_pos (by omega)]; try exact rfl)
    refine walkM_call (MP.eq (.string ⟨(ratTxt r.energy).toArray⟩)) ?_ ?_
    · intro yq zq wq hC hd
      obtain ⟨hcq, hfq⟩ := bcell hC
      simp at hd
      refine ⟨by go_simp; done, ?_⟩
      apply Exists.intro
      apply Exists.intro
      constructor
      · go_simp
        exact ⟨rfl, rfl⟩
      · refine (spec_FormatRat _ r.energy _ wq (Agg.below HV.out (by (repeat (first | (with_reducible exact Below.refl _ _) | ((with_reducible refine Below.set ?_ ?_ _); rotate_left; (simp <;> omega)) | (with_reducible refine Below.box_ ?_ _) | (with_reducible refine Below.next ?_ (by assumption))))))).mono ?_
        rintro e w' ⟨rfl, hb⟩
        exact ⟨_, rfl, hb, [], ⟨rfl, rfl⟩, fun b hb => by simp at hb⟩
    refine walkM_eq (.string ⟨(Lib.itoa r.triangles ++ [32, 101, 110, 101, 114, 103, 121, 32] ++ ratTxt r.energy).toArray⟩) ?_ ?_
    · intro yq zq wq hC hd
      obtain ⟨hcq, hfq⟩ := bcell hC
      simp at hd
      refine ⟨by go_simp; done, ?_⟩
      go_simp
      omega
    refine walkM_eq (.string ⟨(Lib.itoa r.triangles ++ [32, 101, 110, 101, 114, 103, 121, 32] ++ ratTxt r.energy ++ [32, 98, 111, 117, 110, 100, 32]).toArray⟩) ?_ ?_
    · intro yq zq wq hC hd
      obtain ⟨hcq, hfq⟩ := bcell hC
      simp at hd
      refine ⟨by go_simp; done, ?_⟩
      go_simp
      omega
    iterate 2
      apply walkM_eq
      case h =>
        intro yq zq wq hC hd
        obtain ⟨hcq, hfq⟩ := bcell hC
        simp at hd
        refine ⟨by go_simp; done, ?_⟩
        go_simp
        first | (go_ints; exact rfl) | (go_ints; rw [if_pos (by omega)]; try exact rfl) | exact rfl | (rw [if_pos (by omega)]; try exact rfl)
    refine walkM_call (MP.eq (.string ⟨(ratTxt r.bound).toArray⟩)) ?_ ?_
    · intro yq zq wq hC hd
      obtain ⟨hcq, hfq⟩ := bcell hC
      simp at hd
      refine ⟨by go_simp; done, ?_⟩
      apply Exists.intro
      apply Exists.intro
      constructor
      · go_simp
        exact ⟨rfl, rfl⟩
      · refine (spec_FormatRat _ r.bound _ wq (Agg.below HQ.out (by (repeat (first | (with_reducible exact Below.refl _ _) | ((with_reducible refine Below.set ?_ ?_ _); rotate_left; (simp <;> omega)) | (with_reducible refine Below.box_ ?_ _) | (with_reducible refine Below.next ?_ (by assumption))))))).mono ?_
        rintro e w' ⟨rfl, hb⟩
        exact ⟨_, rfl, hb, [], ⟨rfl, rfl⟩, fun b hb => by simp at hb⟩
    refine walkM_eq (.string ⟨(Lib.itoa r.triangles ++ [32, 101, 110, 101, 114, 103, 121, 32] ++ ratTxt r.energy ++ [32, 98, 111, 117, 110, 100, 32] ++ ratTxt r.bound).toArray⟩) ?_ ?_
    · intro yq zq wq hC hd
      obtain ⟨hcq, hfq⟩ := bcell hC
      simp at hd
      refine ⟨by go_simp; done, ?_⟩
      go_simp
      omega
    intro yq zq wa hC hd hdis0
    have hdis := hid hdis0
    clear hdis0
    simp at hd
    go_simp
    go_wp2
    refine bodyPost_ret (results_tmp rfl _ _ _) rfl ⟨?_, by (repeat (first | (with_reducible exact Below.refl _ _) | ((with_reducible refine Below.set ?_ ?_ _); rotate_left; (simp <;> omega)) | (with_reducible refine Below.box_ ?_ _) | (with_reducible refine Below.next ?_ (by assumption))))⟩
    rw [← E.out]; simp

set_option maxHeartbeats 4000000 in
set_option maxRecDepth 10000 in
theorem impl_FormatReport (v : Value) (r : TReport) (b : List Nat) (w : World) (hx : Agg w v r b) (ht : TabOk w) :
    Calls Tryd.prog 13 #[v] w (Gives w (.string ⟨(reportTxt r).toArray⟩)) := by
  have HT := hid ht
  clear ht
  obtain ⟨A2, n2, c2, s2, A3, n3, c3, s3, A5, n5, c5, s5, A6, n6, c6, s6, rfl, rfl, h0, h2, h3, h5, h6⟩ := TReport.agg hx
  have HV := hid (TRat.mkAgg (x := r.energy) h2 h3); have HQ := hid (TRat.mkAgg (x := r.bound) h5 h6)
  obtain ⟨hi0, hi1⟩ := i64_bounds h0
  have HI0 := hid hi0; have HI1 := hid hi1
  have hl0 : (Lib.itoa r.triangles).length ≤ 20 := itoa_len hi0 hi1
  have hl1 : (ratTxt r.energy).length ≤ 1082 := ratTxt_len _
  have hl2 : (ratTxt r.bound).length ≤ 1082 := ratTxt_len _
  clear h0 h2 h3 h5 h6 hx hi0 hi1
  have hp : [r.energy, r.bound].all ratOkB = (ratOkB r.energy && ratOkB r.bound) := by simp
  cases hok : [r.energy, r.bound].all ratOkB
  · have hn : ¬ (ratOkB r.energy = true ∧ ratOkB r.bound = true) := by rw [hok] at hp; intro h; rw [h.1, h.2] at hp; cases hp
    have E := hid (show [] = reportTxt r by unfold reportTxt; rw [if_neg hn])
    have OK := hid hok
    clear hok hn hp
    go_enter Tryd.func13, Tryd.ntmps13
    go_wp2_with fail
    have C := impl_areRats (some ⟨w.heap.size + 1, 0, none⟩) 2 2 [r.energy, r.bound] _ ((w.alloc (.cells #[.int .i64 r.triangles, .bool r.energy.num.neg, .slice A2 n2 c2, .slice A3 n3 c3, .bool r.bound.num.neg, .slice A5 n5 c5, .slice A6 n6 c6] 44)).alloc (.cells #[.bool r.energy.num.neg, .slice A2 n2 c2, .slice A3 n3 c3, .bool r.bound.num.neg, .slice A5 n5 c5, .slice A6 n6 c6] 33)) (sl_two (Agg.below HV.out (by (repeat (first | (with_reducible exact Below.refl _ _) | ((with_reducible refine Below.set ?_ ?_ _); rotate_left; (simp <;> omega)) | (with_reducible refine Below.box_ ?_ _) | (with_reducible refine Below.next ?_ (by assumption)))))) (Agg.below HQ.out (by (repeat (first | (with_reducible exact Below.refl _ _) | ((with_reducible refine Below.set ?_ ?_ _); rotate_left; (simp <;> omega)) | (with_reducible refine Below.box_ ?_ _) | (with_reducible refine Below.next ?_ (by assumption)))))) (by simp) (by go_simp) (by go_simp) (by go_simp) (by go_simp) (by go_simp) (by go_simp))
    rw [OK.out] at C
    refine C.mono ?_
    clear C
    rintro _ w1 ⟨rfl, hb1⟩
    obtain ⟨hc_w1, hf_w1⟩ := bcell hb1
    have hz0_w1 : w.heap.size < w1.heap.size := by have := hb1.size; (try simp at this); omega
    have hz1_w1 : w.heap.size + 1 < w1.heap.size := by have := hb1.size; (try simp at this); omega
    go_wp2
    refine bodyPost_ret (results_tmp rfl _ _ _) rfl ⟨?_, by (repeat (first | (with_reducible exact Below.refl _ _) | ((with_reducible refine Below.set ?_ ?_ _); rotate_left; (simp <;> omega)) | (with_reducible refine Below.box_ ?_ _) | (with_reducible refine Below.next ?_ (by assumption))))⟩
    rw [← E.out]; rfl
  · have hn : ratOkB r.energy = true ∧ ratOkB r.bound = true := by rw [hok] at hp; simpa using hp.symm
    have E := hid (show Lib.itoa r.triangles ++ [32, 101, 110, 101, 114, 103, 121, 32] ++ ratTxt r.energy ++ [32, 98, 111, 117, 110, 100, 32] ++ ratTxt r.bound = reportTxt r by unfold reportTxt; rw [if_pos hn])
    have OK := hid hok
    clear hok hn hp
    go_enter Tryd.func13, Tryd.ntmps13
    go_wp2_with fail
    have C := impl_areRats (some ⟨w.heap.size + 1, 0, none⟩) 2 2 [r.energy, r.bound] _ ((w.alloc (.cells #[.int .i64 r.triangles, .bool r.energy.num.neg, .slice A2 n2 c2, .slice A3 n3 c3, .bool r.bound.num.neg, .slice A5 n5 c5, .slice A6 n6 c6] 44)).alloc (.cells #[.bool r.energy.num.neg, .slice A2 n2 c2, .slice A3 n3 c3, .bool r.bound.num.neg, .slice A5 n5 c5, .slice A6 n6 c6] 33)) (sl_two (Agg.below HV.out (by (repeat (first | (with_reducible exact Below.refl _ _) | ((with_reducible refine Below.set ?_ ?_ _); rotate_left; (simp <;> omega)) | (with_reducible refine Below.box_ ?_ _) | (with_reducible refine Below.next ?_ (by assumption)))))) (Agg.below HQ.out (by (repeat (first | (with_reducible exact Below.refl _ _) | ((with_reducible refine Below.set ?_ ?_ _); rotate_left; (simp <;> omega)) | (with_reducible refine Below.box_ ?_ _) | (with_reducible refine Below.next ?_ (by assumption)))))) (by simp) (by go_simp) (by go_simp) (by go_simp) (by go_simp) (by go_simp) (by go_simp))
    rw [OK.out] at C
    refine C.mono ?_
    clear C
    rintro _ w1 ⟨rfl, hb1⟩
    obtain ⟨hc_w1, hf_w1⟩ := bcell hb1
    have hz0_w1 : w.heap.size < w1.heap.size := by have := hb1.size; (try simp at this); omega
    have hz1_w1 : w.heap.size + 1 < w1.heap.size := by have := hb1.size; (try simp at this); omega
    go_wp2_with fail
    refine wp_region_last (by simp) (by kernel_rfl) (by kernel_rfl) (by kernel_rfl) (by kernel_rfl) ?_
    dsimp only [List.dropLast, List.getLast, List.length]
    iterate 2
      apply walkM_eq
      case h =>
        intro yq zq wq hC hd
        obtain ⟨hcq, hfq⟩ := bcell hC
        simp at hd
        refine ⟨by go_simp; done, ?_⟩
        go_simp
        first | (go_ints; exact rfl) | (go_ints; rw [if_pos (by omega)]; try exact rfl) | exact rfl | (rw [if_pos (by omega)]; try exact rfl)
    refine walkM_call (MP.eq (.string ⟨(Lib.itoa r.triangles).toArray⟩)) ?_ ?_
    · intro yq zq wq hC hd
      obtain ⟨hcq, hfq⟩ := bcell hC
      simp at hd
      refine ⟨by go_simp; done, ?_⟩
      apply Exists.intro
      apply Exists.intro
      constructor
      · go_simp
        exact ⟨rfl, rfl⟩
      · refine (impl_FormatInt r.triangles HI0.out HI1.out wq (HT.out.below (by (repeat (first | (with_reducible exact Below.refl _ _) | ((with_reducible refine Below.set ?_ ?_ _); rotate_left; (simp <;> omega)) | (with_reducible refine Below.box_ ?_ _) | (with_reducible refine Below.next ?_ (by assumption))))))).mono ?_
        rintro e w' ⟨rfl, hb⟩
        exact ⟨_, rfl, hb, [], ⟨rfl, rfl⟩, fun b hb => by simp at hb⟩
    refine walkM_eq (.string ⟨(Lib.itoa r.triangles ++ [32, 101, 110, 101, 114, 103, 121, 32]).toArray⟩) ?_ ?_
    · intro yq zq wq hC hd
      obtain ⟨hcq, hfq⟩ := bcell hC
      simp at hd
      refine ⟨by go_simp; done, ?_⟩
      go_simp
      omega
    iterate 2
      apply walkM_eq
      case h =>
        intro yq zq wq hC hd
        obtain ⟨hcq, hfq⟩ := bcell hC
        simp at hd
        refine ⟨by go_simp; done, ?_⟩
        go_simp
        first | (go_ints; exact rfl) | (go_ints; rw [if_pos (by omega)]; try exact rfl) | exact rfl | (rw [if_pos (by omega)]; try exact rfl)
    refine walkM_call (MP.eq (.string ⟨(ratTxt r.energy).toArray⟩)) ?_ ?_
    · intro yq zq wq hC hd
      obtain ⟨hcq, hfq⟩ := bcell hC
      simp at hd
      refine ⟨by go_simp; done, ?_⟩
      apply Exists.intro
      apply Exists.intro
      constructor
      · go_simp
        exact ⟨rfl, rfl⟩
      · refine (impl_FormatRat _ r.energy _ wq (Agg.below HV.out (by (repeat (first | (with_reducible exact Below.refl _ _) | ((with_reducible refine Below.set ?_ ?_ _); rotate_left; (simp <;> omega)) | (with_reducible refine Below.box_ ?_ _) | (with_reducible refine Below.next ?_ (by assumption)))))) (HT.out.below (by (repeat (first | (with_reducible exact Below.refl _ _) | ((with_reducible refine Below.set ?_ ?_ _); rotate_left; (simp <;> omega)) | (with_reducible refine Below.box_ ?_ _) | (with_reducible refine Below.next ?_ (by assumption))))))).mono ?_
        rintro e w' ⟨rfl, hb⟩
        exact ⟨_, rfl, hb, [], ⟨rfl, rfl⟩, fun b hb => by simp at hb⟩
    refine walkM_eq (.string ⟨(Lib.itoa r.triangles ++ [32, 101, 110, 101, 114, 103, 121, 32] ++ ratTxt r.energy).toArray⟩) ?_ ?_
    · intro yq zq wq hC hd
      obtain ⟨hcq, hfq⟩ := bcell hC
      simp at hd
      refine ⟨by go_simp; done, ?_⟩
      go_simp
      omega
    refine walkM_eq (.string ⟨(Lib.itoa r.triangles ++ [32, 101, 110, 101, 114, 103, 121, 32] ++ ratTxt r.energy ++ [32, 98, 111, 117, 110, 100, 32]).toArray⟩) ?_ ?_
    · intro yq zq wq hC hd
      obtain ⟨hcq, hfq⟩ := bcell hC
      simp at hd
      refine ⟨by go_simp; done, ?_⟩
      go_simp
      omega
    iterate 2
      apply walkM_eq
      case h =>
        intro yq zq wq hC hd
        obtain ⟨hcq, hfq⟩ := bcell hC
        simp at hd
        refine ⟨by go_simp; done, ?_⟩
        go_simp
        first | (go_ints; exact rfl) | (go_ints; rw [if_pos (by omega)]; try exact rfl) | exact rfl | (rw [if_pos (by omega)]; try exact rfl)
    refine walkM_call (MP.eq (.string ⟨(ratTxt r.bound).toArray⟩)) ?_ ?_
    · intro yq zq wq hC hd
      obtain ⟨hcq, hfq⟩ := bcell hC
      simp at hd
      refine ⟨by go_simp; done, ?_⟩
      apply Exists.intro
      apply Exists.intro
      constructor
      · go_simp
        exact ⟨rfl, rfl⟩
      · refine (impl_FormatRat _ r.bound _ wq (Agg.below HQ.out (by (repeat (first | (with_reducible exact Below.refl _ _) | ((with_reducible refine Below.set ?_ ?_ _); rotate_left; (simp <;> omega)) | (with_reducible refine Below.box_ ?_ _) | (with_reducible refine Below.next ?_ (by assumption)))))) (HT.out.below (by (repeat (first | (with_reducible exact Below.refl _ _) | ((with_reducible refine Below.set ?_ ?_ _); rotate_left; (simp <;> omega)) | (with_reducible refine Below.box_ ?_ _) | (with_reducible refine Below.next ?_ (by assumption))))))).mono ?_
        rintro e w' ⟨rfl, hb⟩
        exact ⟨_, rfl, hb, [], ⟨rfl, rfl⟩, fun b hb => by simp at hb⟩
    refine walkM_eq (.string ⟨(Lib.itoa r.triangles ++ [32, 101, 110, 101, 114, 103, 121, 32] ++ ratTxt r.energy ++ [32, 98, 111, 117, 110, 100, 32] ++ ratTxt r.bound).toArray⟩) ?_ ?_
    · intro yq zq wq hC hd
      obtain ⟨hcq, hfq⟩ := bcell hC
      simp at hd
      refine ⟨by go_simp; done, ?_⟩
      go_simp
      omega
    intro yq zq wa hC hd hdis0
    have hdis := hid hdis0
    clear hdis0
    simp at hd
    go_simp
    go_wp2
    refine bodyPost_ret (results_tmp rfl _ _ _) rfl ⟨?_, by (repeat (first | (with_reducible exact Below.refl _ _) | ((with_reducible refine Below.set ?_ ?_ _); rotate_left; (simp <;> omega)) | (with_reducible refine Below.box_ ?_ _) | (with_reducible refine Below.next ?_ (by assumption))))⟩
    rw [← E.out]; simp
end Go.Proofs.YthlpjpcnpcclhaaDoor.X
