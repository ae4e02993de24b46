/- Texts of goals: the reference. -/
import Derived.Test.YthlpjpcnpcclhaaDoorXTx3
namespace Go.Proofs.YthlpjpcnpcclhaaDoor.X
open Go.RowKit Go.XB Go.XN
attribute [local go_sem] fillBy opAt deps depOf Region.wanted yielded str_app str_app_nil
attribute [local simp] deps depOf MP.eq MP.agg MP.sl Facts
set_option linter.constructorNameAsVariable false

set_option maxHeartbeats 4000000 in
set_option maxRecDepth 10000 in
theorem spec_FormatGoal (v : Value) (g : TGoal) (b : List Nat) (w : World) (hx : Agg w v g b) :
    Calls Tryd.prog 6 #[v] w (Gives w (.string ⟨(goalTxt g).toArray⟩)) := by
  obtain ⟨A1, n1, c1, s1, A2, n2, c2, s2, A4, n4, c4, s4, A5, n5, c5, s5, rfl, rfl, h1, h2, h4, h5⟩ := TGoal.agg hx
  have HV := hid (TRat.mkAgg (x := g.value) h1 h2); have HQ := hid (TRat.mkAgg (x := g.square) h4 h5)
  clear h1 h2 h4 h5 hx
  have hl1 : (ratTxt g.value).length ≤ 1082 := ratTxt_len _
  have hl2 : (ratTxt g.square).length ≤ 1082 := ratTxt_len _
  cases hv : ratOkB g.value
  · have HB := hid hv
    have E := hid (show [] = goalTxt g by unfold goalTxt; simp [*])
    clear hv
    go_enter Tryd.func6, Tryd.ntmps6
    go_wp2_with fail
    have C := spec_RatOk _ g.value _ (w.alloc (.cells #[.bool g.value.num.neg, .slice A1 n1 c1, .slice A2 n2 c2, .bool g.square.num.neg, .slice A4 n4 c4, .slice A5 n5 c5] 35)) (Agg.below HV.out (by (repeat (first | (with_reducible exact Below.refl _ _) | ((with_reducible refine Below.set ?_ ?_ _); rotate_left; (simp <;> omega)) | (with_reducible refine Below.box_ ?_ _) | (with_reducible refine Below.next ?_ (by assumption))))))
    rw [HB.out] at C
    refine C.mono ?_
    clear C
    rintro _ w1 ⟨rfl, hb1⟩
    obtain ⟨hc_w1, hf_w1⟩ := bcell hb1
    have hz0_w1 : w.heap.size < w1.heap.size := by have := hb1.size; (try simp at this); omega
    go_wp2
    refine bodyPost_ret (results_tmp rfl _ _ _) rfl ⟨?_, by (repeat (first | (with_reducible exact Below.refl _ _) | ((with_reducible refine Below.set ?_ ?_ _); rotate_left; (simp <;> omega)) | (with_reducible refine Below.box_ ?_ _) | (with_reducible refine Below.next ?_ (by assumption))))⟩
    rw [← E.out]; rfl
  cases hq : ratOkB g.square
  · have HB := hid hv
    have HB2 := hid hq
    have E := hid (show [] = goalTxt g by unfold goalTxt; simp [*])
    clear hv hq
    go_enter Tryd.func6, Tryd.ntmps6
    go_wp2_with fail
    have C := spec_RatOk _ g.value _ (w.alloc (.cells #[.bool g.value.num.neg, .slice A1 n1 c1, .slice A2 n2 c2, .bool g.square.num.neg, .slice A4 n4 c4, .slice A5 n5 c5] 35)) (Agg.below HV.out (by (repeat (first | (with_reducible exact Below.refl _ _) | ((with_reducible refine Below.set ?_ ?_ _); rotate_left; (simp <;> omega)) | (with_reducible refine Below.box_ ?_ _) | (with_reducible refine Below.next ?_ (by assumption))))))
    rw [HB.out] at C
    refine C.mono ?_
    clear C
    rintro _ w1 ⟨rfl, hb1⟩
    obtain ⟨hc_w1, hf_w1⟩ := bcell hb1
    have hz0_w1 : w.heap.size < w1.heap.size := by have := hb1.size; (try simp at this); omega
    go_wp2_with fail
    have C := spec_RatOk _ g.square _ w1 (Agg.below HQ.out (by (repeat (first | (with_reducible exact Below.refl _ _) | ((with_reducible refine Below.set ?_ ?_ _); rotate_left; (simp <;> omega)) | (with_reducible refine Below.box_ ?_ _) | (with_reducible refine Below.next ?_ (by assumption))))))
    rw [HB2.out] at C
    refine C.mono ?_
    clear C
    rintro _ w2 ⟨rfl, hb2⟩
    obtain ⟨hc_w2, hf_w2⟩ := bcell hb2
    have hz0_w2 : w.heap.size < w2.heap.size := by have := hb2.size; (try simp at this); omega
    go_wp2
    refine bodyPost_ret (results_tmp rfl _ _ _) rfl ⟨?_, by (repeat (first | (with_reducible exact Below.refl _ _) | ((with_reducible refine Below.set ?_ ?_ _); rotate_left; (simp <;> omega)) | (with_reducible refine Below.box_ ?_ _) | (with_reducible refine Below.next ?_ (by assumption))))⟩
    rw [← E.out]; rfl
  · have HB := hid hv
    have HB2 := hid hq
    have E := hid (show ratTxt g.value ++ [32, 115, 113, 117, 97, 114, 101, 32] ++ ratTxt g.square = goalTxt g by unfold goalTxt; simp [*])
    clear hv hq
    go_enter Tryd.func6, Tryd.ntmps6
    go_wp2_with fail
    have C := spec_RatOk _ g.value _ (w.alloc (.cells #[.bool g.value.num.neg, .slice A1 n1 c1, .slice A2 n2 c2, .bool g.square.num.neg, .slice A4 n4 c4, .slice A5 n5 c5] 35)) (Agg.below HV.out (by (repeat (first | (with_reducible exact Below.refl _ _) | ((with_reducible refine Below.set ?_ ?_ _); rotate_left; (simp <;> omega)) | (with_reducible refine Below.box_ ?_ _) | (with_reducible refine Below.next ?_ (by assumption))))))
    rw [HB.out] at C
    refine C.mono ?_
    clear C
    rintro _ w1 ⟨rfl, hb1⟩
    obtain ⟨hc_w1, hf_w1⟩ := bcell hb1
    have hz0_w1 : w.heap.size < w1.heap.size := by have := hb1.size; (try simp at this); omega
    go_wp2_with fail
    have C := spec_RatOk _ g.square _ w1 (Agg.below HQ.out (by (repeat (first | (with_reducible exact Below.refl _ _) | ((with_reducible refine Below.set ?_ ?_ _); rotate_left; (simp <;> omega)) | (with_reducible refine Below.box_ ?_ _) | (with_reducible refine Below.next ?_ (by assumption))))))
    rw [HB2.out] at C
    refine C.mono ?_
    clear C
    rintro _ w2 ⟨rfl, hb2⟩
    obtain ⟨hc_w2, hf_w2⟩ := bcell hb2
    have hz0_w2 : w.heap.size < w2.heap.size := by have := hb2.size; (try simp at this); omega
    go_wp2_with fail
    refine wp_region_last (by simp) (by kernel_rfl) (by kernel_rfl) (by kernel_rfl) (by kernel_rfl) ?_
    dsimp only [List.dropLast, List.getLast, List.length]
    iterate 2
      apply walkM_eq
      case h =>
        intro yq zq wq hC hd
        obtain ⟨hcq, hfq⟩ := bcell hC
        simp at hd
        refine ⟨by go_simp; done, ?_⟩
        go_simp
        first | (go_ints; exact rfl) | (go_ints; rw [if_pos (by omega)]; try exact rfl) | exact rfl | (rw [if_pos (by omega)]; try exact rfl)
    refine walkM_call (MP.eq (.string ⟨(ratTxt g.value).toArray⟩)) ?_ ?_
    · intro yq zq wq hC hd
      obtain ⟨hcq, hfq⟩ := bcell hC
      simp at hd
      refine ⟨by go_simp; done, ?_⟩
      apply Exists.intro
      apply Exists.intro
      constructor
      · go_simp
        exact ⟨rfl, rfl⟩
      · refine (spec_FormatRat _ g.value _ wq (Agg.below HV.out (by (repeat (first | (with_reducible exact Below.refl _ _) | ((with_reducible refine Below.set ?_ ?_ _); rotate_left; (simp <;> omega)) | (with_reducible refine Below.box_ ?_ _) | (with_reducible refine Below.next ?_ (by assumption))))))).mono ?_
        rintro e w' ⟨rfl, hb⟩
        exact ⟨_, rfl, hb, [], ⟨rfl, rfl⟩, fun b hb => by simp at hb⟩
    refine walkM_eq (.string ⟨(ratTxt g.value ++ [32, 115, 113, 117, 97, 114, 101, 32]).toArray⟩) ?_ ?_
    · intro yq zq wq hC hd
      obtain ⟨hcq, hfq⟩ := bcell hC
      simp at hd
      refine ⟨by go_simp; done, ?_⟩
      go_simp
      omega
    iterate 2
      apply walkM_eq
      case h =>
        intro yq zq wq hC hd
        obtain ⟨hcq, hfq⟩ := bcell hC
        simp at hd
        refine ⟨by go_simp; done, ?_⟩
        go_simp
        first | (go_ints; exact rfl) | (go_ints; rw [if_pos (by omega)]; try exact rfl) | exact rfl | (rw [if_pos (by omega)]; try exact rfl)
    refine walkM_call (MP.eq (.string ⟨(ratTxt g.square).toArray⟩)) ?_ ?_
    · intro yq zq wq hC hd
      obtain ⟨hcq, hfq⟩ := bcell hC
      simp at hd
      refine ⟨by go_simp; done, ?_⟩
      apply Exists.intro
      apply Exists.intro
      constructor
      · go_simp
        exact ⟨rfl, rfl⟩
      · refine (spec_FormatRat _ g.square _ wq (Agg.below HQ.out (by (repeat (first | (with_reducible exact Below.refl _ _) | ((with_reducible refine Below.set ?_ ?_ _); rotate_left; (simp <;> omega)) | (with_reducible refine Below.box_ ?_ _) | (with_reducible refine Below.next ?_ (by assumption))))))).mono ?_
        rintro e w' ⟨rfl, hb⟩
        exact ⟨_, rfl, hb, [], ⟨rfl, rfl⟩, fun b hb => by simp at hb⟩
    refine walkM_eq (.string ⟨(ratTxt g.value ++ [32, 115, 113, 117, 97, 114, 101, 32] ++ ratTxt g.square).toArray⟩) ?_ ?_
    · intro yq zq wq hC hd
      obtain ⟨hcq, hfq⟩ := bcell hC
      simp at hd
      refine ⟨by go_simp; done, ?_⟩
      go_simp
      omega
    intro yq zq wa hC hd hdis0
    have hdis := hid hdis0
    clear hdis0
    simp at hd
    go_simp
    go_wp2
    refine bodyPost_ret (results_tmp rfl _ _ _) rfl ⟨?_, by (repeat (first | (with_reducible exact Below.refl _ _) | ((with_reducible refine Below.set ?_ ?_ _); rotate_left; (simp <;> omega)) | (with_reducible refine Below.box_ ?_ _) | (with_reducible refine Below.next ?_ (by assumption))))⟩
    rw [← E.out]; simp
end Go.Proofs.YthlpjpcnpcclhaaDoor.X
