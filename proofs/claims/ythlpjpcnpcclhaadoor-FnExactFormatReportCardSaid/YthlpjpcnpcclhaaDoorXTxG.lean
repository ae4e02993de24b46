/- Texts of integers, fractions, goals: the program. -/
import Derived.Test.YthlpjpcnpcclhaaDoorXTxN
import Derived.Test.YthlpjpcnpcclhaaDoorP6
import Derived.Test.YthlpjpcnpcclhaaDoorP7
namespace Go.Proofs.YthlpjpcnpcclhaaDoor.X
open Go.RowKit Go.XB Go.XN
attribute [local go_sem] fillBy opAt deps depOf Region.wanted yielded str_app str_app_nil
attribute [local simp] deps depOf MP.eq MP.agg MP.sl Facts
set_option linter.constructorNameAsVariable false

set_option maxHeartbeats 2000000 in
set_option maxRecDepth 10000 in
theorem impl_FormatBigInt (v : Value) (x : TBigInt) (bs : List Nat) (w : World) (hx : Agg w v x bs) (ht : TabOk w) :
    Calls Tryd.prog 38 #[v] w (Gives w (.string ⟨(bigTxt x).toArray⟩)) := by
  have HT := hid ht
  clear ht
  obtain ⟨A1, n1, c1, s1, rfl, rfl, hs1⟩ := TBigInt.agg hx
  have H1 := hid hs1
  clear hs1 hx
  obtain ⟨neg, mag⟩ := x
  have hlen : (natTxtB mag).length ≤ 540 := natTxtB_len mag
  cases hb : bigOkB ⟨neg, mag⟩
  · have HB := hid hb
    have E := hid (show [] = bigTxt ⟨neg, mag⟩ by unfold bigTxt; rw [hb]; rfl)
    clear hb
    go_enter Tryd.func38, Tryd.ntmps38
    go_wp2_with fail
    have C := impl_BigIntOk _ ⟨neg, mag⟩ bs (w.alloc (.cells #[.bool neg, .slice A1 n1 c1] 31)) (TBigInt.mkAgg (Sl.below H1.out (by (repeat (first | (with_reducible exact Below.refl _ _) | ((with_reducible refine Below.set ?_ ?_ _); rotate_left; (simp <;> omega)) | (with_reducible refine Below.box_ ?_ _) | (with_reducible refine Below.next ?_ (by assumption)))))))
    rw [HB.out] at C
    refine C.mono ?_
    clear C
    rintro _ w1 ⟨rfl, hb1⟩
    obtain ⟨hc_w1, hf_w1⟩ := bcell hb1
    have hz0_w1 : w.heap.size < w1.heap.size := by have := hb1.size; (try simp at this); omega
    go_wp2
    refine bodyPost_ret (results_tmp rfl _ _ _) rfl ⟨?_, by (repeat (first | (with_reducible exact Below.refl _ _) | ((with_reducible refine Below.set ?_ ?_ _); rotate_left; (simp <;> omega)) | (with_reducible refine Below.box_ ?_ _) | (with_reducible refine Below.next ?_ (by assumption))))⟩
    rw [← E.out]; rfl
  cases neg
  · have HB := hid hb
    have E := hid (show natTxtB mag = bigTxt ⟨false, mag⟩ by unfold bigTxt; rw [hb]; rfl)
    clear hb
    go_enter Tryd.func38, Tryd.ntmps38
    go_wp2_with fail
    have C := impl_BigIntOk _ ⟨false, mag⟩ bs (w.alloc (.cells #[.bool false, .slice A1 n1 c1] 31)) (TBigInt.mkAgg (Sl.below H1.out (by (repeat (first | (with_reducible exact Below.refl _ _) | ((with_reducible refine Below.set ?_ ?_ _); rotate_left; (simp <;> omega)) | (with_reducible refine Below.box_ ?_ _) | (with_reducible refine Below.next ?_ (by assumption)))))))
    rw [HB.out] at C
    refine C.mono ?_
    clear C
    rintro _ w1 ⟨rfl, hb1⟩
    obtain ⟨hc_w1, hf_w1⟩ := bcell hb1
    have hz0_w1 : w.heap.size < w1.heap.size := by have := hb1.size; (try simp at this); omega
    go_wp2_with fail
    refine (impl_FormatNat A1 n1 c1 mag bs w1 (Sl.below H1.out (by (repeat (first | (with_reducible exact Below.refl _ _) | ((with_reducible refine Below.set ?_ ?_ _); rotate_left; (simp <;> omega)) | (with_reducible refine Below.box_ ?_ _) | (with_reducible refine Below.next ?_ (by assumption)))))) (HT.out.below (by (repeat (first | (with_reducible exact Below.refl _ _) | ((with_reducible refine Below.set ?_ ?_ _); rotate_left; (simp <;> omega)) | (with_reducible refine Below.box_ ?_ _) | (with_reducible refine Below.next ?_ (by assumption))))))).mono ?_
    rintro _ w2 ⟨rfl, hb2⟩
    obtain ⟨hc_w2, hf_w2⟩ := bcell hb2
    have hz0_w2 : w.heap.size < w2.heap.size := by have := hb2.size; (try simp at this); omega
    go_wp2
    refine bodyPost_ret (results_tmp rfl _ _ _) rfl ⟨?_, by (repeat (first | (with_reducible exact Below.refl _ _) | ((with_reducible refine Below.set ?_ ?_ _); rotate_left; (simp <;> omega)) | (with_reducible refine Below.box_ ?_ _) | (with_reducible refine Below.next ?_ (by assumption))))⟩
    rw [← E.out]; rfl
  · have HB := hid hb
    have E := hid (show 45 :: natTxtB mag = bigTxt ⟨true, mag⟩ by unfold bigTxt; rw [hb]; rfl)
    clear hb
    go_enter Tryd.func38, Tryd.ntmps38
    go_wp2_with fail
    have C := impl_BigIntOk _ ⟨true, mag⟩ bs (w.alloc (.cells #[.bool true, .slice A1 n1 c1] 31)) (TBigInt.mkAgg (Sl.below H1.out (by (repeat (first | (with_reducible exact Below.refl _ _) | ((with_reducible refine Below.set ?_ ?_ _); rotate_left; (simp <;> omega)) | (with_reducible refine Below.box_ ?_ _) | (with_reducible refine Below.next ?_ (by assumption)))))))
    rw [HB.out] at C
    refine C.mono ?_
    clear C
    rintro _ w1 ⟨rfl, hb1⟩
    obtain ⟨hc_w1, hf_w1⟩ := bcell hb1
    have hz0_w1 : w.heap.size < w1.heap.size := by have := hb1.size; (try simp at this); omega
    go_wp2_with fail
    refine (impl_FormatNat A1 n1 c1 mag bs w1 (Sl.below H1.out (by (repeat (first | (with_reducible exact Below.refl _ _) | ((with_reducible refine Below.set ?_ ?_ _); rotate_left; (simp <;> omega)) | (with_reducible refine Below.box_ ?_ _) | (with_reducible refine Below.next ?_ (by assumption)))))) (HT.out.below (by (repeat (first | (with_reducible exact Below.refl _ _) | ((with_reducible refine Below.set ?_ ?_ _); rotate_left; (simp <;> omega)) | (with_reducible refine Below.box_ ?_ _) | (with_reducible refine Below.next ?_ (by assumption))))))).mono ?_
    rintro _ w2 ⟨rfl, hb2⟩
    obtain ⟨hc_w2, hf_w2⟩ := bcell hb2
    have hz0_w2 : w.heap.size < w2.heap.size := by have := hb2.size; (try simp at this); omega
    go_wp2
    refine bodyPost_ret (results_tmp rfl _ _ _) rfl ⟨?_, by (repeat (first | (with_reducible exact Below.refl _ _) | ((with_reducible refine Below.set ?_ ?_ _); rotate_left; (simp <;> omega)) | (with_reducible refine Below.box_ ?_ _) | (with_reducible refine Below.next ?_ (by assumption))))⟩
    rw [← E.out]; rfl

set_option maxHeartbeats 2000000 in
set_option maxRecDepth 10000 in
theorem impl_FormatRat (v : Value) (x : TRat) (b : List Nat) (w : World) (hx : Agg w v x b) (ht : TabOk w) :
    Calls Tryd.prog 20 #[v] w (Gives w (.string ⟨(ratTxt x).toArray⟩)) := by
  have HT := hid ht
  clear ht
  obtain ⟨A1, n1, c1, s1, A2, n2, c2, s2, rfl, rfl, hs1, hs2⟩ := TRat.agg hx
  have H1 := hid hs1; have H2 := hid hs2
  clear hs1 hs2
  have hl1 : (bigTxt x.num).length ≤ 541 := bigTxt_len x.num
  have hl2 : (natTxtB x.den).length ≤ 540 := natTxtB_len x.den
  cases hok : ratOkB x
  · have HB := hid hok
    have E := hid (show [] = ratTxt x by unfold ratTxt; rw [hok]; rfl)
    clear hok
    have HX := hid hx
    clear hx
    go_enter Tryd.func20, Tryd.ntmps20
    go_wp2_with fail
    have C := impl_RatOk _ x _ (w.alloc (.cells #[.bool x.num.neg, .slice A1 n1 c1, .slice A2 n2 c2] 33)) (Agg.below HX.out (by (repeat (first | (with_reducible exact Below.refl _ _) | ((with_reducible refine Below.set ?_ ?_ _); rotate_left; (simp <;> omega)) | (with_reducible refine Below.box_ ?_ _) | (with_reducible refine Below.next ?_ (by assumption))))))
    rw [HB.out] at C
    refine C.mono ?_
    clear C
    rintro _ w1 ⟨rfl, hb1⟩
    obtain ⟨hc_w1, hf_w1⟩ := bcell hb1
    have hz0_w1 : w.heap.size < w1.heap.size := by have := hb1.size; (try simp at this); omega
    go_wp2
    refine bodyPost_ret (results_tmp rfl _ _ _) rfl ⟨?_, by (repeat (first | (with_reducible exact Below.refl _ _) | ((with_reducible refine Below.set ?_ ?_ _); rotate_left; (simp <;> omega)) | (with_reducible refine Below.box_ ?_ _) | (with_reducible refine Below.next ?_ (by assumption))))⟩
    rw [← E.out]; rfl
  by_cases h1 : x.den = [1]
  · have HB := hid hok
    have HD := hid (show decide (x.den = [1]) = true by simp [h1])
    have E := hid (show bigTxt x.num = ratTxt x by unfold ratTxt; rw [hok, if_pos h1]; rfl)
    clear hok h1
    have HX := hid hx
    clear hx
    go_enter Tryd.func20, Tryd.ntmps20
    go_wp2_with fail
    have C := impl_RatOk _ x _ (w.alloc (.cells #[.bool x.num.neg, .slice A1 n1 c1, .slice A2 n2 c2] 33)) (Agg.below HX.out (by (repeat (first | (with_reducible exact Below.refl _ _) | ((with_reducible refine Below.set ?_ ?_ _); rotate_left; (simp <;> omega)) | (with_reducible refine Below.box_ ?_ _) | (with_reducible refine Below.next ?_ (by assumption))))))
    rw [HB.out] at C
    refine C.mono ?_
    clear C
    rintro _ w1 ⟨rfl, hb1⟩
    obtain ⟨hc_w1, hf_w1⟩ := bcell hb1
    have hz0_w1 : w.heap.size < w1.heap.size := by have := hb1.size; (try simp at this); omega
    go_wp2_with fail
    have C := impl_isOne A2 n2 c2 x.den s2 w1 (Sl.below H2.out (by (repeat (first | (with_reducible exact Below.refl _ _) | ((with_reducible refine Below.set ?_ ?_ _); rotate_left; (simp <;> omega)) | (with_reducible refine Below.box_ ?_ _) | (with_reducible refine Below.next ?_ (by assumption))))))
    rw [HD.out] at C
    refine C.mono ?_
    clear C
    rintro _ w2 ⟨rfl, hb2⟩
    obtain ⟨hc_w2, hf_w2⟩ := bcell hb2
    have hz0_w2 : w.heap.size < w2.heap.size := by have := hb2.size; (try simp at this); omega
    go_wp2_with fail
    refine (impl_FormatBigInt _ x.num s1 w2 (TBigInt.mkAgg (Sl.below H1.out (by (repeat (first | (with_reducible exact Below.refl _ _) | ((with_reducible refine Below.set ?_ ?_ _); rotate_left; (simp <;> omega)) | (with_reducible refine Below.box_ ?_ _) | (with_reducible refine Below.next ?_ (by assumption))))))) (HT.out.below (by (repeat (first | (with_reducible exact Below.refl _ _) | ((with_reducible refine Below.set ?_ ?_ _); rotate_left; (simp <;> omega)) | (with_reducible refine Below.box_ ?_ _) | (with_reducible refine Below.next ?_ (by assumption))))))).mono ?_
    rintro _ w3 ⟨rfl, hb3⟩
    obtain ⟨hc_w3, hf_w3⟩ := bcell hb3
    have hz0_w3 : w.heap.size < w3.heap.size := by have := hb3.size; (try simp at this); omega
    go_wp2
    refine bodyPost_ret (results_tmp rfl _ _ _) rfl ⟨?_, by (repeat (first | (with_reducible exact Below.refl _ _) | ((with_reducible refine Below.set ?_ ?_ _); rotate_left; (simp <;> omega)) | (with_reducible refine Below.box_ ?_ _) | (with_reducible refine Below.next ?_ (by assumption))))⟩
    rw [← E.out]; rfl
  · have HB := hid hok
    have HD := hid (show decide (x.den = [1]) = false by simp [h1])
    have E := hid (show bigTxt x.num ++ 47 :: natTxtB x.den = ratTxt x by unfold ratTxt; rw [hok, if_neg h1]; rfl)
    clear hok h1
    have HX := hid hx
    clear hx
    go_enter Tryd.func20, Tryd.ntmps20
    go_wp2_with fail
    have C := impl_RatOk _ x _ (w.alloc (.cells #[.bool x.num.neg, .slice A1 n1 c1, .slice A2 n2 c2] 33)) (Agg.below HX.out (by (repeat (first | (with_reducible exact Below.refl _ _) | ((with_reducible refine Below.set ?_ ?_ _); rotate_left; (simp <;> omega)) | (with_reducible refine Below.box_ ?_ _) | (with_reducible refine Below.next ?_ (by assumption))))))
    rw [HB.out] at C
    refine C.mono ?_
    clear C
    rintro _ w1 ⟨rfl, hb1⟩
    obtain ⟨hc_w1, hf_w1⟩ := bcell hb1
    have hz0_w1 : w.heap.size < w1.heap.size := by have := hb1.size; (try simp at this); omega
    go_wp2_with fail
    have C := impl_isOne A2 n2 c2 x.den s2 w1 (Sl.below H2.out (by (repeat (first | (with_reducible exact Below.refl _ _) | ((with_reducible refine Below.set ?_ ?_ _); rotate_left; (simp <;> omega)) | (with_reducible refine Below.box_ ?_ _) | (with_reducible refine Below.next ?_ (by assumption))))))
    rw [HD.out] at C
    refine C.mono ?_
    clear C
    rintro _ w2 ⟨rfl, hb2⟩
    obtain ⟨hc_w2, hf_w2⟩ := bcell hb2
    have hz0_w2 : w.heap.size < w2.heap.size := by have := hb2.size; (try simp at this); omega
    go_wp2_with fail
    refine wp_region_last (by simp) (by kernel_rfl) (by kernel_rfl) (by kernel_rfl) (by kernel_rfl) ?_
    dsimp only [List.dropLast, List.getLast, List.length]
    iterate 2
      apply walkM_eq
      case h =>
        intro yq zq wq hC hd
        obtain ⟨hcq, hfq⟩ := bcell hC
        simp at hd
        refine ⟨by go_simp; done, ?_⟩
        go_simp
        first | (go_ints; exact rfl) | (go_ints; rw [if_pos (by omega)]; try exact rfl) | exact rfl | (rw [if_pos (by omega)]; try exact rfl)
    refine walkM_call (MP.eq (.string ⟨(bigTxt x.num).toArray⟩)) ?_ ?_
    · intro yq zq wq hC hd
      obtain ⟨hcq, hfq⟩ := bcell hC
      simp at hd
      refine ⟨by go_simp; done, ?_⟩
      apply Exists.intro
      apply Exists.intro
      constructor
      · go_simp
        exact ⟨rfl, rfl⟩
      · refine (impl_FormatBigInt _ x.num s1 wq (TBigInt.mkAgg (Sl.below H1.out (by (repeat (first | (with_reducible exact Below.refl _ _) | ((with_reducible refine Below.set ?_ ?_ _); rotate_left; (simp <;> omega)) | (with_reducible refine Below.box_ ?_ _) | (with_reducible refine Below.next ?_ (by assumption))))))) (HT.out.below (by (repeat (first | (with_reducible exact Below.refl _ _) | ((with_reducible refine Below.set ?_ ?_ _); rotate_left; (simp <;> omega)) | (with_reducible refine Below.box_ ?_ _) | (with_reducible refine Below.next ?_ (by assumption))))))).mono ?_
        rintro e w' ⟨rfl, hb⟩
        exact ⟨_, rfl, hb, [], ⟨rfl, rfl⟩, fun b hb => by simp at hb⟩
    refine walkM_eq (.string ⟨(bigTxt x.num ++ [47]).toArray⟩) ?_ ?_
    · intro yq zq wq hC hd
      obtain ⟨hcq, hfq⟩ := bcell hC
      simp at hd
      refine ⟨by go_simp; done, ?_⟩
      go_simp
      omega
    iterate 2
      apply walkM_eq
      case h =>
        intro yq zq wq hC hd
        obtain ⟨hcq, hfq⟩ := bcell hC
        simp at hd
        refine ⟨by go_simp; done, ?_⟩
        go_simp
        first | (go_ints; exact rfl) | (go_ints; rw [if_pos (by omega)]; try exact rfl) | exact rfl | (rw [if_pos (by omega)]; try exact rfl)
    refine walkM_call (MP.eq (.string ⟨(natTxtB x.den).toArray⟩)) ?_ ?_
    · intro yq zq wq hC hd
      obtain ⟨hcq, hfq⟩ := bcell hC
      simp at hd
      refine ⟨by go_simp; done, ?_⟩
      apply Exists.intro
      apply Exists.intro
      constructor
      · go_simp
        exact ⟨rfl, rfl⟩
      · refine (impl_FormatNat A2 n2 c2 x.den s2 wq (Sl.below H2.out (by (repeat (first | (with_reducible exact Below.refl _ _) | ((with_reducible refine Below.set ?_ ?_ _); rotate_left; (simp <;> omega)) | (with_reducible refine Below.box_ ?_ _) | (with_reducible refine Below.next ?_ (by assumption)))))) (HT.out.below (by (repeat (first | (with_reducible exact Below.refl _ _) | ((with_reducible refine Below.set ?_ ?_ _); rotate_left; (simp <;> omega)) | (with_reducible refine Below.box_ ?_ _) | (with_reducible refine Below.next ?_ (by assumption))))))).mono ?_
        rintro e w' ⟨rfl, hb⟩
        exact ⟨_, rfl, hb, [], ⟨rfl, rfl⟩, fun b hb => by simp at hb⟩
    refine walkM_eq (.string ⟨(bigTxt x.num ++ [47] ++ natTxtB x.den).toArray⟩) ?_ ?_
    · intro yq zq wq hC hd
      obtain ⟨hcq, hfq⟩ := bcell hC
      simp at hd
      refine ⟨by go_simp; done, ?_⟩
      go_simp
      omega
    intro yq zq wa hC hd hdis0
    have hdis := hid hdis0
    clear hdis0
    simp at hd
    go_simp
    go_wp2
    refine bodyPost_ret (results_tmp rfl _ _ _) rfl ⟨?_, by (repeat (first | (with_reducible exact Below.refl _ _) | ((with_reducible refine Below.set ?_ ?_ _); rotate_left; (simp <;> omega)) | (with_reducible refine Below.box_ ?_ _) | (with_reducible refine Below.next ?_ (by assumption))))⟩
    rw [← E.out]; rfl
set_option maxHeartbeats 4000000 in
set_option maxRecDepth 10000 in
theorem impl_FormatGoal (v : Value) (g : TGoal) (b : List Nat) (w : World) (hx : Agg w v g b) (ht : TabOk w) :
    Calls Tryd.prog 8 #[v] w (Gives w (.string ⟨(goalTxt g).toArray⟩)) := by
  have HT := hid ht
  clear ht
  obtain ⟨A1, n1, c1, s1, A2, n2, c2, s2, A4, n4, c4, s4, A5, n5, c5, s5, rfl, rfl, h1, h2, h4, h5⟩ := TGoal.agg hx
  have HV := hid (TRat.mkAgg (x := g.value) h1 h2); have HQ := hid (TRat.mkAgg (x := g.square) h4 h5)
  clear h1 h2 h4 h5 hx
  have hl1 : (ratTxt g.value).length ≤ 1082 := ratTxt_len _
  have hl2 : (ratTxt g.square).length ≤ 1082 := ratTxt_len _
  have hp : [g.value, g.square].all ratOkB = (ratOkB g.value && ratOkB g.square) := by simp
  cases hok : [g.value, g.square].all ratOkB
  · have hn : ¬ (ratOkB g.value = true ∧ ratOkB g.square = true) := by rw [hok] at hp; intro h; rw [h.1, h.2] at hp; cases hp
    have E := hid (show [] = goalTxt g by unfold goalTxt; rw [if_neg hn])
    have OK := hid hok
    clear hok hn hp
    go_enter Tryd.func8, Tryd.ntmps8
    go_wp2_with fail
    have C := impl_areRats (some ⟨w.heap.size + 1, 0, none⟩) 2 2 [g.value, g.square] _ ((w.alloc (.cells #[.bool g.value.num.neg, .slice A1 n1 c1, .slice A2 n2 c2, .bool g.square.num.neg, .slice A4 n4 c4, .slice A5 n5 c5] 35)).alloc (.cells #[.bool g.value.num.neg, .slice A1 n1 c1, .slice A2 n2 c2, .bool g.square.num.neg, .slice A4 n4 c4, .slice A5 n5 c5] 33)) (sl_two (Agg.below HV.out (by (repeat (first | (with_reducible exact Below.refl _ _) | ((with_reducible refine Below.set ?_ ?_ _); rotate_left; (simp <;> omega)) | (with_reducible refine Below.box_ ?_ _) | (with_reducible refine Below.next ?_ (by assumption)))))) (Agg.below HQ.out (by (repeat (first | (with_reducible exact Below.refl _ _) | ((with_reducible refine Below.set ?_ ?_ _); rotate_left; (simp <;> omega)) | (with_reducible refine Below.box_ ?_ _) | (with_reducible refine Below.next ?_ (by assumption)))))) (by simp) (by go_simp) (by go_simp) (by go_simp) (by go_simp) (by go_simp) (by go_simp))
    rw [OK.out] at C
    refine C.mono ?_
    clear C
    rintro _ w1 ⟨rfl, hb1⟩
    obtain ⟨hc_w1, hf_w1⟩ := bcell hb1
    have hz0_w1 : w.heap.size < w1.heap.size := by have := hb1.size; (try simp at this); omega
    have hz1_w1 : w.heap.size + 1 < w1.heap.size := by have := hb1.size; (try simp at this); omega
    go_wp2
    refine bodyPost_ret (results_tmp rfl _ _ _) rfl ⟨?_, by (repeat (first | (with_reducible exact Below.refl _ _) | ((with_reducible refine Below.set ?_ ?_ _); rotate_left; (simp <;> omega)) | (with_reducible refine Below.box_ ?_ _) | (with_reducible refine Below.next ?_ (by assumption))))⟩
    rw [← E.out]; rfl
  · have hn : ratOkB g.value = true ∧ ratOkB g.square = true := by rw [hok] at hp; simpa using hp.symm
    have E := hid (show ratTxt g.value ++ [32, 115, 113, 117, 97, 114, 101, 32] ++ ratTxt g.square = goalTxt g by unfold goalTxt; rw [if_pos hn])
    have OK := hid hok
    clear hok hn hp
    go_enter Tryd.func8, Tryd.ntmps8
    go_wp2_with fail
    have C := impl_areRats (some ⟨w.heap.size + 1, 0, none⟩) 2 2 [g.value, g.square] _ ((w.alloc (.cells #[.bool g.value.num.neg, .slice A1 n1 c1, .slice A2 n2 c2, .bool g.square.num.neg, .slice A4 n4 c4, .slice A5 n5 c5] 35)).alloc (.cells #[.bool g.value.num.neg, .slice A1 n1 c1, .slice A2 n2 c2, .bool g.square.num.neg, .slice A4 n4 c4, .slice A5 n5 c5] 33)) (sl_two (Agg.below HV.out (by (repeat (first | (with_reducible exact Below.refl _ _) | ((with_reducible refine Below.set ?_ ?_ _); rotate_left; (simp <;> omega)) | (with_reducible refine Below.box_ ?_ _) | (with_reducible refine Below.next ?_ (by assumption)))))) (Agg.below HQ.out (by (repeat (first | (with_reducible exact Below.refl _ _) | ((with_reducible refine Below.set ?_ ?_ _); rotate_left; (simp <;> omega)) | (with_reducible refine Below.box_ ?_ _) | (with_reducible refine Below.next ?_ (by assumption)))))) (by simp) (by go_simp) (by go_simp) (by go_simp) (by go_simp) (by go_simp) (by go_simp))
    rw [OK.out] at C
    refine C.mono ?_
    clear C
    rintro _ w1 ⟨rfl, hb1⟩
    obtain ⟨hc_w1, hf_w1⟩ := bcell hb1
    have hz0_w1 : w.heap.size < w1.heap.size := by have := hb1.size; (try simp at this); omega
    have hz1_w1 : w.heap.size + 1 < w1.heap.size := by have := hb1.size; (try simp at this); omega
    go_wp2_with fail
    refine wp_region_last (by simp) (by kernel_rfl) (by kernel_rfl) (by kernel_rfl) (by kernel_rfl) ?_
    dsimp only [List.dropLast, List.getLast, List.length]
    iterate 2
      apply walkM_eq
      case h =>
        intro yq zq wq hC hd
        obtain ⟨hcq, hfq⟩ := bcell hC
        simp at hd
        refine ⟨by go_simp; done, ?_⟩
        go_simp
        first | (go_ints; exact rfl) | (go_ints; rw [if_pos (by omega)]; try exact rfl) | exact rfl | (rw [if_pos (by omega)]; try exact rfl)
    refine walkM_call (MP.eq (.string ⟨(ratTxt g.value).toArray⟩)) ?_ ?_
    · intro yq zq wq hC hd
      obtain ⟨hcq, hfq⟩ := bcell hC
      simp at hd
      refine ⟨by go_simp; done, ?_⟩
      apply Exists.intro
      apply Exists.intro
      constructor
      · go_simp
        exact ⟨rfl, rfl⟩
      · refine (impl_FormatRat _ g.value _ wq (Agg.below HV.out (by (repeat (first | (with_reducible exact Below.refl _ _) | ((with_reducible refine Below.set ?_ ?_ _); rotate_left; (simp <;> omega)) | (with_reducible refine Below.box_ ?_ _) | (with_reducible refine Below.next ?_ (by assumption)))))) (HT.out.below (by (repeat (first | (with_reducible exact Below.refl _ _) | ((with_reducible refine Below.set ?_ ?_ _); rotate_left; (simp <;> omega)) | (with_reducible refine Below.box_ ?_ _) | (with_reducible refine Below.next ?_ (by assumption))))))).mono ?_
        rintro e w' ⟨rfl, hb⟩
        exact ⟨_, rfl, hb, [], ⟨rfl, rfl⟩, fun b hb => by simp at hb⟩
    refine walkM_eq (.string ⟨(ratTxt g.value ++ [32, 115, 113, 117, 97, 114, 101, 32]).toArray⟩) ?_ ?_
    · intro yq zq wq hC hd
      obtain ⟨hcq, hfq⟩ := bcell hC
      simp at hd
      refine ⟨by go_simp; done, ?_⟩
      go_simp
      omega
    iterate 2
      apply walkM_eq
      case h =>
        intro yq zq wq hC hd
        obtain ⟨hcq, hfq⟩ := bcell hC
        simp at hd
        refine ⟨by go_simp; done, ?_⟩
        go_simp
        first | (go_ints; exact rfl) | (go_ints; rw [if_pos (by omega)]; try exact rfl) | exact rfl | (rw [if_pos (by omega)]; try exact rfl)
    refine walkM_call (MP.eq (.string ⟨(ratTxt g.square).toArray⟩)) ?_ ?_
    · intro yq zq wq hC hd
      obtain ⟨hcq, hfq⟩ := bcell hC
      simp at hd
      refine ⟨by go_simp; done, ?_⟩
      apply Exists.intro
      apply Exists.intro
      constructor
      · go_simp
        exact ⟨rfl, rfl⟩
      · refine (impl_FormatRat _ g.square _ wq (Agg.below HQ.out (by (repeat (first | (with_reducible exact Below.refl _ _) | ((with_reducible refine Below.set ?_ ?_ _); rotate_left; (simp <;> omega)) | (with_reducible refine Below.box_ ?_ _) | (with_reducible refine Below.next ?_ (by assumption)))))) (HT.out.below (by (repeat (first | (with_reducible exact Below.refl _ _) | ((with_reducible refine Below.set ?_ ?_ _); rotate_left; (simp <;> omega)) | (with_reducible refine Below.box_ ?_ _) | (with_reducible refine Below.next ?_ (by assumption))))))).mono ?_
        rintro e w' ⟨rfl, hb⟩
        exact ⟨_, rfl, hb, [], ⟨rfl, rfl⟩, fun b hb => by simp at hb⟩
    refine walkM_eq (.string ⟨(ratTxt g.value ++ [32, 115, 113, 117, 97, 114, 101, 32] ++ ratTxt g.square).toArray⟩) ?_ ?_
    · intro yq zq wq hC hd
      obtain ⟨hcq, hfq⟩ := bcell hC
      simp at hd
      refine ⟨by go_simp; done, ?_⟩
      go_simp
      omega
    intro yq zq wa hC hd hdis0
    have hdis := hid hdis0
    clear hdis0
    simp at hd
    go_simp
    go_wp2
    refine bodyPost_ret (results_tmp rfl _ _ _) rfl ⟨?_, by (repeat (first | (with_reducible exact Below.refl _ _) | ((with_reducible refine Below.set ?_ ?_ _); rotate_left; (simp <;> omega)) | (with_reducible refine Below.box_ ?_ _) | (with_reducible refine Below.next ?_ (by assumption))))⟩
    rw [← E.out]; simp
end Go.Proofs.YthlpjpcnpcclhaaDoor.X
