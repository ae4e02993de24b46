/- States compared: slices.EqualFunc at reports, points and numbers, slices.Equal at triangles, SameMesh, SameProblem, SameState of the program and of the reference. No condition. -/
import Derived.Test.YtmhcfdipnofohaaXSame
import Derived.Test.YtmhcfdipnofohaaXLawLib
import Derived.WalkLawsBesides
import Derived.ProofKit
import Derived.BigQuiet
import Derived.Deep.QuietTactic
namespace Go.Proofs.Ytmhcfdipnofohaa.X
open Go.RowKit Go.XB
attribute [local go_sem] fillBy opAt deps depOf Region.wanted yielded
attribute [local simp] deps depOf MP.eq Facts

theorem tri_dec (x y : TTri) : decide (x = y) = (decide (x.a = y.a) && (decide (x.b = y.b) && (decide (x.c = y.c) && (decide (x.region = y.region) && decide (x.level = y.level))))) := by
  obtain ⟨a, b, c, d, e⟩ := x
  obtain ⟨a', b', c', d', e'⟩ := y
  simp

set_option maxHeartbeats 1000000 in
theorem slices_EqualFunc_impl_Report_impl_Report_impl_Report_impl_Report (A A' : Option Addr) (n n' c c' : Nat) (xs ys : List TReport) (bs bs' : List Nat) (w : World) (hx : Sl w A n c xs bs) (hy : Sl w A' n' c' ys bs') :
    Calls Try.prog 29 #[.slice A n c, .slice A' n' c', .func (.func 11) #[] #[]] w (Gives w (.bool (decide (xs = ys)))) := by
  have hn : n ≤ maxLen := Nat.le_trans hx.2.1 hx.2.2.1
  have hn' : n' ≤ maxLen := Nat.le_trans hy.2.1 hy.2.2.1
  have HL := hid hx.1; have HL' := hid hy.1
  unfold maxLen at hn hn'
  have HX := hid hx; have HY := hid hy
  clear hx hy
  by_cases hne : n = n'
  · subst hne
    go_enter Try.func29, Try.ntmps29
    go_wp2
    go_loopw [17] (fun i wr => ∃ k : Nat, k ≤ n ∧ i = .int .i64 k ∧ Hid (xs.take k = ys.take k) ∧ Below w.heap.size w wr) (fun i wr => n - (intOf i).toNat)
    case atStart => exact ⟨0, Nat.zero_le _, rfl, rfl, Below.refl _ _⟩
    case round =>
      obtain ⟨k, hk, rfl, ht, hb⟩ := hrel
      by_cases hlt : k < n
      · have r1 : k + 1 ≤ n := by omega
        obtain ⟨eb, eoff, x, eA2, en2, ec2, es2, eA3, en3, ec3, es3, eA5, en5, ec5, es5, eA6, en6, ec6, es6, rfl, ehbl, ehx, ee0, ee1, ee2, ee3, ee4, ee5, ee6, ehag⟩ := TReport.elemA (Sl.below HX.out hb) hlt
        have eHX := hid ehx; have eHA := hid ehag
        clear ehx ehag
        obtain ⟨fb, foff, y, fA2, fn2, fc2, fs2, fA3, fn3, fc3, fs3, fA5, fn5, fc5, fs5, fA6, fn6, fc6, fs6, rfl, fhbl, fhx, fe0, fe1, fe2, fe3, fe4, fe5, fe6, fhag⟩ := TReport.elemA (Sl.below HY.out hb) hlt
        have fHX := hid fhx; have fHA := hid fhag
        clear fhx fhag
        by_cases hxy : x = y
        · have hbb : decide (x = y) = true := by simp [hxy]
          have r3 := hid (take_eq_step eHX.out fHX.out ht.out hxy)
          clear hxy
          go_wp2_with fail
          refine (impl_SameReport _ _ x y _ _ _ (Agg.below eHA.out (by (repeat (first | (with_reducible exact Below.refl _ _) | ((with_reducible refine Below.set ?_ ?_ _); rotate_left; (simp <;> omega)) | (with_reducible refine Below.box_ ?_ _) | (with_reducible refine Below.next ?_ (by assumption)))))) (Agg.below fHA.out (by (repeat (first | (with_reducible exact Below.refl _ _) | ((with_reducible refine Below.set ?_ ?_ _); rotate_left; (simp <;> omega)) | (with_reducible refine Below.box_ ?_ _) | (with_reducible refine Below.next ?_ (by assumption))))))).mono ?_
          rintro e u ⟨rfl, hbu⟩
          have r4 : Below w.heap.size w u := by (repeat (first | (with_reducible exact Below.refl _ _) | ((with_reducible refine Below.set ?_ ?_ _); rotate_left; (simp <;> omega)) | (with_reducible refine Below.box_ ?_ _) | (with_reducible refine Below.next ?_ (by assumption))))
          go_wp2
          first
          | exact ⟨⟨k + 1, r1, num_succ k, r3, r4⟩, meas_succ hlt⟩
          | exact ⟨by (repeat apply Exists.intro); exact ⟨⟨k + 1, r1, num_succ k, r3, r4⟩, rfl⟩, meas_succ hlt⟩
        · have hbb : decide (x = y) = false := by simp [hxy]
          have HN := hid (ne_at eHX.out fHX.out hxy)
          clear hxy
          go_wp2_with fail
          refine (impl_SameReport _ _ x y _ _ _ (Agg.below eHA.out (by (repeat (first | (with_reducible exact Below.refl _ _) | ((with_reducible refine Below.set ?_ ?_ _); rotate_left; (simp <;> omega)) | (with_reducible refine Below.box_ ?_ _) | (with_reducible refine Below.next ?_ (by assumption)))))) (Agg.below fHA.out (by (repeat (first | (with_reducible exact Below.refl _ _) | ((with_reducible refine Below.set ?_ ?_ _); rotate_left; (simp <;> omega)) | (with_reducible refine Below.box_ ?_ _) | (with_reducible refine Below.next ?_ (by assumption))))))).mono ?_
          rintro e u ⟨rfl, hbu⟩
          go_wp2
          go_ret
          exact ⟨ret_bool (by simp [HN.out]), by (repeat (first | (with_reducible exact Below.refl _ _) | ((with_reducible refine Below.set ?_ ?_ _); rotate_left; (simp <;> omega)) | (with_reducible refine Below.box_ ?_ _) | (with_reducible refine Below.next ?_ (by assumption))))⟩
      · go_wp2
        go_ret
        exact ⟨ret_bool (by simp [take_all_eq HL.out HL'.out (by omega) ht.out]), hb⟩
  · have hb : ((n : Int) != n') = true := by simp; omega
    go_enter Try.func29, Try.ntmps29
    go_wp2
    go_ret
    exact ⟨ret_bool (by
      have : xs ≠ ys := fun e => hne (by rw [← HL.out, ← HL'.out, e])
      simp [this]), Below.refl _ _⟩
set_option maxHeartbeats 1000000 in
theorem slices_EqualFunc_impl_Point_impl_Point_impl_Point_impl_Point (A A' : Option Addr) (n n' c c' : Nat) (xs ys : List TPoint) (bs bs' : List Nat) (w : World) (hx : Sl w A n c xs bs) (hy : Sl w A' n' c' ys bs') :
    Calls Try.prog 55 #[.slice A n c, .slice A' n' c', .func (.func 56) #[] #[]] w (Gives w (.bool (decide (xs = ys)))) := by
  have hn : n ≤ maxLen := Nat.le_trans hx.2.1 hx.2.2.1
  have hn' : n' ≤ maxLen := Nat.le_trans hy.2.1 hy.2.2.1
  have HL := hid hx.1; have HL' := hid hy.1
  unfold maxLen at hn hn'
  have HX := hid hx; have HY := hid hy
  clear hx hy
  by_cases hne : n = n'
  · subst hne
    go_enter Try.func55, Try.ntmps55
    go_wp2
    go_loopw [17] (fun i wr => ∃ k : Nat, k ≤ n ∧ i = .int .i64 k ∧ Hid (xs.take k = ys.take k) ∧ Below w.heap.size w wr) (fun i wr => n - (intOf i).toNat)
    case atStart => exact ⟨0, Nat.zero_le _, rfl, rfl, Below.refl _ _⟩
    case round =>
      obtain ⟨k, hk, rfl, ht, hb⟩ := hrel
      by_cases hlt : k < n
      · have r1 : k + 1 ≤ n := by omega
        obtain ⟨eb, eoff, x, eA1, en1, ec1, es1, eA2, en2, ec2, es2, eA4, en4, ec4, es4, eA5, en5, ec5, es5, rfl, ehbl, ehx, ee0, ee1, ee2, ee3, ee4, ee5, ehag⟩ := TPoint.elemA (Sl.below HX.out hb) hlt
        have eHX := hid ehx; have eHA := hid ehag
        clear ehx ehag
        obtain ⟨fb, foff, y, fA1, fn1, fc1, fs1, fA2, fn2, fc2, fs2, fA4, fn4, fc4, fs4, fA5, fn5, fc5, fs5, rfl, fhbl, fhx, fe0, fe1, fe2, fe3, fe4, fe5, fhag⟩ := TPoint.elemA (Sl.below HY.out hb) hlt
        have fHX := hid fhx; have fHA := hid fhag
        clear fhx fhag
        by_cases hxy : x = y
        · have hbb : decide (x = y) = true := by simp [hxy]
          have r3 := hid (take_eq_step eHX.out fHX.out ht.out hxy)
          clear hxy
          go_wp2_with fail
          refine (impl_SamePoint _ _ x y _ _ _ (Agg.below eHA.out (by (repeat (first | (with_reducible exact Below.refl _ _) | ((with_reducible refine Below.set ?_ ?_ _); rotate_left; (simp <;> omega)) | (with_reducible refine Below.box_ ?_ _) | (with_reducible refine Below.next ?_ (by assumption)))))) (Agg.below fHA.out (by (repeat (first | (with_reducible exact Below.refl _ _) | ((with_reducible refine Below.set ?_ ?_ _); rotate_left; (simp <;> omega)) | (with_reducible refine Below.box_ ?_ _) | (with_reducible refine Below.next ?_ (by assumption))))))).mono ?_
          rintro e u ⟨rfl, hbu⟩
          have r4 : Below w.heap.size w u := by (repeat (first | (with_reducible exact Below.refl _ _) | ((with_reducible refine Below.set ?_ ?_ _); rotate_left; (simp <;> omega)) | (with_reducible refine Below.box_ ?_ _) | (with_reducible refine Below.next ?_ (by assumption))))
          go_wp2
          first
          | exact ⟨⟨k + 1, r1, num_succ k, r3, r4⟩, meas_succ hlt⟩
          | exact ⟨by (repeat apply Exists.intro); exact ⟨⟨k + 1, r1, num_succ k, r3, r4⟩, rfl⟩, meas_succ hlt⟩
        · have hbb : decide (x = y) = false := by simp [hxy]
          have HN := hid (ne_at eHX.out fHX.out hxy)
          clear hxy
          go_wp2_with fail
          refine (impl_SamePoint _ _ x y _ _ _ (Agg.below eHA.out (by (repeat (first | (with_reducible exact Below.refl _ _) | ((with_reducible refine Below.set ?_ ?_ _); rotate_left; (simp <;> omega)) | (with_reducible refine Below.box_ ?_ _) | (with_reducible refine Below.next ?_ (by assumption)))))) (Agg.below fHA.out (by (repeat (first | (with_reducible exact Below.refl _ _) | ((with_reducible refine Below.set ?_ ?_ _); rotate_left; (simp <;> omega)) | (with_reducible refine Below.box_ ?_ _) | (with_reducible refine Below.next ?_ (by assumption))))))).mono ?_
          rintro e u ⟨rfl, hbu⟩
          go_wp2
          go_ret
          exact ⟨ret_bool (by simp [HN.out]), by (repeat (first | (with_reducible exact Below.refl _ _) | ((with_reducible refine Below.set ?_ ?_ _); rotate_left; (simp <;> omega)) | (with_reducible refine Below.box_ ?_ _) | (with_reducible refine Below.next ?_ (by assumption))))⟩
      · go_wp2
        go_ret
        exact ⟨ret_bool (by simp [take_all_eq HL.out HL'.out (by omega) ht.out]), hb⟩
  · have hb : ((n : Int) != n') = true := by simp; omega
    go_enter Try.func55, Try.ntmps55
    go_wp2
    go_ret
    exact ⟨ret_bool (by
      have : xs ≠ ys := fun e => hne (by rw [← HL.out, ← HL'.out, e])
      simp [this]), Below.refl _ _⟩
set_option maxHeartbeats 1000000 in
theorem slices_EqualFunc_impl_Rat_impl_Rat_impl_Rat_impl_Rat (A A' : Option Addr) (n n' c c' : Nat) (xs ys : List TRat) (bs bs' : List Nat) (w : World) (hx : Sl w A n c xs bs) (hy : Sl w A' n' c' ys bs') :
    Calls Try.prog 58 #[.slice A n c, .slice A' n' c', .func (.func 21) #[] #[]] w (Gives w (.bool (decide (xs = ys)))) := by
  have hn : n ≤ maxLen := Nat.le_trans hx.2.1 hx.2.2.1
  have hn' : n' ≤ maxLen := Nat.le_trans hy.2.1 hy.2.2.1
  have HL := hid hx.1; have HL' := hid hy.1
  unfold maxLen at hn hn'
  have HX := hid hx; have HY := hid hy
  clear hx hy
  by_cases hne : n = n'
  · subst hne
    go_enter Try.func58, Try.ntmps58
    go_wp2
    go_loopw [17] (fun i wr => ∃ k : Nat, k ≤ n ∧ i = .int .i64 k ∧ Hid (xs.take k = ys.take k) ∧ Below w.heap.size w wr) (fun i wr => n - (intOf i).toNat)
    case atStart => exact ⟨0, Nat.zero_le _, rfl, rfl, Below.refl _ _⟩
    case round =>
      obtain ⟨k, hk, rfl, ht, hb⟩ := hrel
      by_cases hlt : k < n
      · have r1 : k + 1 ≤ n := by omega
        obtain ⟨eb, eoff, x, eA1, en1, ec1, es1, eA2, en2, ec2, es2, rfl, ehbl, ehx, ee0, ee1, ee2, ehag⟩ := TRat.elemA (Sl.below HX.out hb) hlt
        have eHX := hid ehx; have eHA := hid ehag
        clear ehx ehag
        obtain ⟨fb, foff, y, fA1, fn1, fc1, fs1, fA2, fn2, fc2, fs2, rfl, fhbl, fhx, fe0, fe1, fe2, fhag⟩ := TRat.elemA (Sl.below HY.out hb) hlt
        have fHX := hid fhx; have fHA := hid fhag
        clear fhx fhag
        by_cases hxy : x = y
        · have hbb : decide (x = y) = true := by simp [hxy]
          have r3 := hid (take_eq_step eHX.out fHX.out ht.out hxy)
          clear hxy
          go_wp2_with fail
          refine (impl_RatEqual _ _ x y _ _ _ (Agg.below eHA.out (by (repeat (first | (with_reducible exact Below.refl _ _) | ((with_reducible refine Below.set ?_ ?_ _); rotate_left; (simp <;> omega)) | (with_reducible refine Below.box_ ?_ _) | (with_reducible refine Below.next ?_ (by assumption)))))) (Agg.below fHA.out (by (repeat (first | (with_reducible exact Below.refl _ _) | ((with_reducible refine Below.set ?_ ?_ _); rotate_left; (simp <;> omega)) | (with_reducible refine Below.box_ ?_ _) | (with_reducible refine Below.next ?_ (by assumption))))))).mono ?_
          rintro e u ⟨rfl, hbu⟩
          have r4 : Below w.heap.size w u := by (repeat (first | (with_reducible exact Below.refl _ _) | ((with_reducible refine Below.set ?_ ?_ _); rotate_left; (simp <;> omega)) | (with_reducible refine Below.box_ ?_ _) | (with_reducible refine Below.next ?_ (by assumption))))
          go_wp2
          first
          | exact ⟨⟨k + 1, r1, num_succ k, r3, r4⟩, meas_succ hlt⟩
          | exact ⟨by (repeat apply Exists.intro); exact ⟨⟨k + 1, r1, num_succ k, r3, r4⟩, rfl⟩, meas_succ hlt⟩
        · have hbb : decide (x = y) = false := by simp [hxy]
          have HN := hid (ne_at eHX.out fHX.out hxy)
          clear hxy
          go_wp2_with fail
          refine (impl_RatEqual _ _ x y _ _ _ (Agg.below eHA.out (by (repeat (first | (with_reducible exact Below.refl _ _) | ((with_reducible refine Below.set ?_ ?_ _); rotate_left; (simp <;> omega)) | (with_reducible refine Below.box_ ?_ _) | (with_reducible refine Below.next ?_ (by assumption)))))) (Agg.below fHA.out (by (repeat (first | (with_reducible exact Below.refl _ _) | ((with_reducible refine Below.set ?_ ?_ _); rotate_left; (simp <;> omega)) | (with_reducible refine Below.box_ ?_ _) | (with_reducible refine Below.next ?_ (by assumption))))))).mono ?_
          rintro e u ⟨rfl, hbu⟩
          go_wp2
          go_ret
          exact ⟨ret_bool (by simp [HN.out]), by (repeat (first | (with_reducible exact Below.refl _ _) | ((with_reducible refine Below.set ?_ ?_ _); rotate_left; (simp <;> omega)) | (with_reducible refine Below.box_ ?_ _) | (with_reducible refine Below.next ?_ (by assumption))))⟩
      · go_wp2
        go_ret
        exact ⟨ret_bool (by simp [take_all_eq HL.out HL'.out (by omega) ht.out]), hb⟩
  · have hb : ((n : Int) != n') = true := by simp; omega
    go_enter Try.func58, Try.ntmps58
    go_wp2
    go_ret
    exact ⟨ret_bool (by
      have : xs ≠ ys := fun e => hne (by rw [← HL.out, ← HL'.out, e])
      simp [this]), Below.refl _ _⟩

set_option maxHeartbeats 1000000 in
theorem slices_Equal_impl_Tri_impl_Tri (A A' : Option Addr) (n n' c c' : Nat) (xs ys : List TTri) (bs bs' : List Nat) (w : World) (hx : Sl w A n c xs bs) (hy : Sl w A' n' c' ys bs') :
    Calls Try.prog 57 #[.slice A n c, .slice A' n' c'] w (Gives w (.bool (decide (xs = ys)))) := by
  have hn : n ≤ maxLen := Nat.le_trans hx.2.1 hx.2.2.1
  have hn' : n' ≤ maxLen := Nat.le_trans hy.2.1 hy.2.2.1
  have HL := hid hx.1; have HL' := hid hy.1
  unfold maxLen at hn hn'
  have HX := hid hx; have HY := hid hy
  clear hx hy
  by_cases hne : n = n'
  · subst hne
    go_enter Try.func57, Try.ntmps57
    go_wp2
    go_loopw [13] (fun i wr => ∃ k : Nat, k ≤ n ∧ i = .int .i64 k ∧ Hid (xs.take k = ys.take k) ∧ Below w.heap.size w wr) (fun i wr => n - (intOf i).toNat)
    case atStart => exact ⟨0, Nat.zero_le _, rfl, rfl, Below.refl _ _⟩
    case round =>
      obtain ⟨k, hk, rfl, ht, hb⟩ := hrel
      by_cases hlt : k < n
      · have r1 : k + 1 ≤ n := by omega
        obtain ⟨eb, eoff, x, rfl, ehbl, ehx, ee0, ee1, ee2, ee3, ee4, ehag⟩ := TTri.elemA (Sl.below HX.out hb) hlt
        have eHX := hid ehx; have eHA := hid ehag
        clear ehx ehag
        obtain ⟨fb, foff, y, rfl, fhbl, fhx, fe0, fe1, fe2, fe3, fe4, fhag⟩ := TTri.elemA (Sl.below HY.out hb) hlt
        have fHX := hid fhx; have fHA := hid fhag
        clear fhx fhag
        have hi1 : (0 : Int) ≤ k := by omega
        have hi2 : (k : Int) < n := by omega
        go_wp2
        refine wp_region_walk (by kernel_rfl) (by kernel_rfl) (by kernel_rfl) ?_
        iterate 8
          apply walkM_eq
          case h =>
            intro yq zq wq hC hd
            obtain ⟨hcq, hfq⟩ := bcell hC
            simp at hd
            refine ⟨by go_simp; done, ?_⟩
            go_simp
            exact rfl
        refine walkM_eq (.bool (!decide (x = y))) ?_ ?_
        · intro yq zq wq hC hd
          obtain ⟨hcq, hfq⟩ := bcell hC
          simp at hd
          refine ⟨by go_simp; done, ?_⟩
          go_simp
          (rw [tri_dec x y]; (repeat' split) <;> simp_all)
        intro yq zq wq hC hd hdis0
        have hdis := hid hdis0
        clear hdis0
        simp at hd
        by_cases hxy : x = y
        · have hbb : decide (x = y) = true := by simp [hxy]
          have r3 := hid (take_eq_step eHX.out fHX.out ht.out hxy)
          have r4 : Below w.heap.size w wq := Below.next hb hC
          clear hxy
          go_simp
          go_wp2
          first
          | exact ⟨⟨k + 1, r1, num_succ k, r3, r4⟩, meas_succ hlt⟩
          | exact ⟨by (repeat apply Exists.intro); exact ⟨⟨k + 1, r1, num_succ k, r3, r4⟩, rfl⟩, meas_succ hlt⟩
        · have hbb : decide (x = y) = false := by simp [hxy]
          have HN := hid (ne_at eHX.out fHX.out hxy)
          clear hxy
          go_simp
          go_wp2
          go_ret
          exact ⟨ret_bool (by simp [HN.out]), Below.next hb hC⟩
      · go_wp2
        go_ret
        exact ⟨ret_bool (by simp [take_all_eq HL.out HL'.out (by omega) ht.out]), hb⟩
  · have hb : ((n : Int) != n') = true := by simp; omega
    go_enter Try.func57, Try.ntmps57
    go_wp2
    go_ret
    exact ⟨ret_bool (by
      have : xs ≠ ys := fun e => hne (by rw [← HL.out, ← HL'.out, e])
      simp [this]), Below.refl _ _⟩

set_option maxHeartbeats 1000000 in
theorem spec_l13Same (A A' : Option Addr) (n n' c c' : Nat) (xs ys : List TRat) (bs bs' : List Nat) (w : World) (hx : Sl w A n c xs bs) (hy : Sl w A' n' c' ys bs') :
    Calls Try.prog 43 #[.slice A n c, .slice A' n' c'] w (Gives w (.bool (decide (xs = ys)))) := by
  have hn : n ≤ maxLen := Nat.le_trans hx.2.1 hx.2.2.1
  have hn' : n' ≤ maxLen := Nat.le_trans hy.2.1 hy.2.2.1
  have HL := hid hx.1; have HL' := hid hy.1
  unfold maxLen at hn hn'
  have HX := hid hx; have HY := hid hy
  clear hx hy
  by_cases hne : n = n'
  · subst hne
    go_enter Try.func43, Try.ntmps43
    go_wp2
    go_loopw [14] (fun i wr => ∃ k : Nat, k ≤ n ∧ i = .int .i64 k ∧ Hid (xs.take k = ys.take k) ∧ Below w.heap.size w wr) (fun i wr => n - (intOf i).toNat)
    case atStart => exact ⟨0, Nat.zero_le _, rfl, rfl, Below.refl _ _⟩
    case round =>
      obtain ⟨k, hk, rfl, ht, hb⟩ := hrel
      by_cases hlt : k < n
      · have r1 : k + 1 ≤ n := by omega
        obtain ⟨eb, eoff, x, eA1, en1, ec1, es1, eA2, en2, ec2, es2, rfl, ehbl, ehx, ee0, ee1, ee2, ehag⟩ := TRat.elemA (Sl.below HX.out hb) hlt
        have eHX := hid ehx; have eHA := hid ehag
        clear ehx ehag
        obtain ⟨fb, foff, y, fA1, fn1, fc1, fs1, fA2, fn2, fc2, fs2, rfl, fhbl, fhx, fe0, fe1, fe2, fhag⟩ := TRat.elemA (Sl.below HY.out hb) hlt
        have fHX := hid fhx; have fHA := hid fhag
        clear fhx fhag
        have hi1 : (0 : Int) ≤ k := by omega
        have hi2 : (k : Int) < n := by omega
        go_wp2
        refine wp_region_walk (by kernel_rfl) (by kernel_rfl) (by kernel_rfl) ?_
        iterate 5
          apply walkM_eq
          case h =>
            intro yq zq wq hC hd
            obtain ⟨hcq, hfq⟩ := bcell hC
            simp at hd
            refine ⟨by go_simp; done, ?_⟩
            go_simp
            exact rfl
        refine walkM_call (MP.eq (.bool (decide (x = y)))) ?_ ?_
        · intro yq zq wq hC hd
          obtain ⟨hcq, hfq⟩ := bcell hC
          simp at hd
          refine ⟨by go_simp; done, ?_⟩
          apply Exists.intro
          apply Exists.intro
          constructor
          · go_simp
            exact ⟨rfl, rfl⟩
          · exact gives_eq (spec_RatEqual _ _ x y _ _ _ (Agg.below eHA.out (by (repeat (first | (with_reducible exact Below.refl _ _) | ((with_reducible refine Below.set ?_ ?_ _); rotate_left; (simp <;> omega)) | (with_reducible refine Below.box_ ?_ _) | (with_reducible refine Below.next ?_ (by assumption)))))) (Agg.below fHA.out (by (repeat (first | (with_reducible exact Below.refl _ _) | ((with_reducible refine Below.set ?_ ?_ _); rotate_left; (simp <;> omega)) | (with_reducible refine Below.box_ ?_ _) | (with_reducible refine Below.next ?_ (by assumption)))))))
        apply walkM_eq
        case h =>
          intro yq zq wq hC hd
          obtain ⟨hcq, hfq⟩ := bcell hC
          simp at hd
          refine ⟨by go_simp; done, ?_⟩
          go_simp
          exact rfl
        intro yq zq wq hC hd hdis0
        have hdis := hid hdis0
        clear hdis0
        simp at hd
        have r4 : Below w.heap.size w wq := by (repeat (first | (with_reducible exact Below.refl _ _) | ((with_reducible refine Below.set ?_ ?_ _); rotate_left; (simp <;> omega)) | (with_reducible refine Below.box_ ?_ _) | (with_reducible refine Below.next ?_ (by assumption))))
        by_cases hxy : x = y
        · have hbb : decide (x = y) = true := by simp [hxy]
          have r3 := hid (take_eq_step eHX.out fHX.out ht.out hxy)
          clear hxy
          go_simp
          go_wp2
          first
          | exact ⟨⟨k + 1, r1, num_succ k, r3, r4⟩, meas_succ hlt⟩
          | exact ⟨by (repeat apply Exists.intro); exact ⟨⟨k + 1, r1, num_succ k, r3, r4⟩, rfl⟩, meas_succ hlt⟩
        · have hbb : decide (x = y) = false := by simp [hxy]
          have HN := hid (ne_at eHX.out fHX.out hxy)
          clear hxy
          go_simp
          go_wp2
          go_ret
          exact ⟨ret_bool (by simp [HN.out]), r4⟩
      · go_wp2
        go_ret
        exact ⟨ret_bool (by simp [take_all_eq HL.out HL'.out (by omega) ht.out]), hb⟩
  · have hb : ((n : Int) != n') = true := by simp; omega
    go_enter Try.func43, Try.ntmps43
    go_wp2
    go_ret
    exact ⟨ret_bool (by
      have : xs ≠ ys := fun e => hne (by rw [← HL.out, ← HL'.out, e])
      simp [this]), Below.refl _ _⟩

theorem ext_TMesh {x y : TMesh} (a : x.points = y.points) (b : x.triangles = y.triangles) : x = y := by
  obtain ⟨_, _⟩ := x; obtain ⟨_, _⟩ := y; simp only at a b; rw [a, b]

set_option maxHeartbeats 4000000 in
theorem spec_SameMesh (v v' : Value) (x y : TMesh) (bs bs' : List Nat) (w : World) (hx : Agg w v x bs) (hy : Agg w v' y bs') :
    Calls Try.prog 42 #[v, v'] w (Gives w (.bool (decide (x = y)))) := by
  have aH := hid hx
  obtain ⟨aA0, an0, ac0, as0, aA1, an1, ac1, as1, rfl, rfl, aw0, aw1⟩ := TMesh.agg hx
  have aW0 := hid aw0
  have aW1 := hid aw1
  clear aw0 aw1 hx
  have bH := hid hy
  obtain ⟨bA0, bn0, bc0, bs0, bA1, bn1, bc1, bs1, rfl, rfl, bw0, bw1⟩ := TMesh.agg hy
  have bW0 := hid bw0
  have bW1 := hid bw1
  clear bw0 bw1 hy
  have ha0 : an0 ≤ maxLen := Nat.le_trans aW0.out.2.1 aW0.out.2.2.1
  have ha1 : an1 ≤ maxLen := Nat.le_trans aW1.out.2.1 aW1.out.2.2.1
  have hb0 : bn0 ≤ maxLen := Nat.le_trans bW0.out.2.1 bW0.out.2.2.1
  have hb1 : bn1 ≤ maxLen := Nat.le_trans bW1.out.2.1 bW1.out.2.2.1
  unfold maxLen at ha0 ha1 hb0 hb1
  by_cases e0 : an0 = bn0
  rotate_left
  · have g0 : ((an0 : Int) != bn0) = true := by simp; omega
    have HN : x ≠ y := fun e => e0 (by rw [← aW0.out.1, ← bW0.out.1, e])
    have HNE := hid HN
    clear HN
    go_enter Try.func42, Try.ntmps42
    go_wp2
    go_ret
    exact ⟨ret_bool (by simp [HNE.out]), by (repeat (first | (with_reducible exact Below.refl _ _) | ((with_reducible refine Below.set ?_ ?_ _); rotate_left; (simp <;> omega)) | (with_reducible refine Below.box_ ?_ _) | (with_reducible refine Below.next ?_ (by assumption))))⟩
  subst e0
  by_cases e1 : an1 = bn1
  rotate_left
  · have g1 : ((an1 : Int) != bn1) = true := by simp; omega
    have HN : x ≠ y := fun e => e1 (by rw [← aW1.out.1, ← bW1.out.1, e])
    have HNE := hid HN
    clear HN
    go_enter Try.func42, Try.ntmps42
    go_wp2
    go_ret
    exact ⟨ret_bool (by simp [HNE.out]), by (repeat (first | (with_reducible exact Below.refl _ _) | ((with_reducible refine Below.set ?_ ?_ _); rotate_left; (simp <;> omega)) | (with_reducible refine Below.box_ ?_ _) | (with_reducible refine Below.next ?_ (by assumption))))⟩
  subst e1
  go_enter Try.func42, Try.ntmps42
  go_wp2
  go_loopw [28] (fun i wr => ∃ k : Nat, k ≤ an0 ∧ i = .int .i64 k ∧ Hid (x.points.take k = y.points.take k) ∧ Below w.heap.size w wr ∧ w.heap.size + 1 < wr.heap.size ∧ wr.cell? ⟨w.heap.size, 1, none⟩ = some (.slice aA1 an1 ac1) ∧ wr.cell? ⟨w.heap.size + 1, 0, none⟩ = some (.slice bA0 an0 bc0) ∧ wr.cell? ⟨w.heap.size + 1, 1, none⟩ = some (.slice bA1 an1 bc1)) (fun i wr => an0 - (intOf i).toNat)
  case atStart => exact ⟨0, Nat.zero_le _, rfl, rfl, by (repeat (first | (with_reducible exact Below.refl _ _) | ((with_reducible refine Below.set ?_ ?_ _); rotate_left; (simp <;> omega)) | (with_reducible refine Below.box_ ?_ _) | (with_reducible refine Below.next ?_ (by assumption)))), by simp, by go_simp, by go_simp, by go_simp⟩
  case round =>
    obtain ⟨k, hk, rfl, ht, hb, hsz, c1, c2, c3⟩ := hrel
    by_cases hlt : k < an0
    · have r1 : k + 1 ≤ an0 := by omega
      obtain ⟨eb, eoff, p, eA1, en1, ec1, es1, eA2, en2, ec2, es2, eA4, en4, ec4, es4, eA5, en5, ec5, es5, rfl, ehbl, ehx, ee0, ee1, ee2, ee3, ee4, ee5, ehag⟩ := TPoint.elemA (Sl.below aW0.out hb) hlt
      have eHX := hid ehx; have eHA := hid ehag
      clear ehx ehag
      obtain ⟨fb, foff, q, fA1, fn1, fc1, fs1, fA2, fn2, fc2, fs2, fA4, fn4, fc4, fs4, fA5, fn5, fc5, fs5, rfl, fhbl, fhx, fe0, fe1, fe2, fe3, fe4, fe5, fhag⟩ := TPoint.elemA (Sl.below bW0.out hb) hlt
      have fHX := hid fhx; have fHA := hid fhag
      clear fhx fhag
      have hi1 : (0 : Int) ≤ k := by omega
      have hi2 : (k : Int) < an0 := by omega
      have hsz0 : w.heap.size < wr.heap.size := by omega
      go_wp2
      refine wp_region_walk (by kernel_rfl) (by kernel_rfl) (by kernel_rfl) ?_
      iterate 6
        apply walkM_eq
        case h =>
          intro yq zq wq hC hd
          obtain ⟨hcq, hfq⟩ := bcell hC
          simp at hd
          refine ⟨by go_simp; done, ?_⟩
          go_simp
          exact rfl
      refine walkM_call (MP.eq (.bool (decide (p = q)))) ?_ ?_
      · intro yq zq wq hC hd
        obtain ⟨hcq, hfq⟩ := bcell hC
        simp at hd
        refine ⟨by go_simp; done, ?_⟩
        apply Exists.intro
        apply Exists.intro
        constructor
        · go_simp
          exact ⟨rfl, rfl⟩
        · exact gives_eq (spec_SamePoint _ _ p q _ _ _ (Agg.below eHA.out (by (repeat (first | (with_reducible exact Below.refl _ _) | ((with_reducible refine Below.set ?_ ?_ _); rotate_left; (simp <;> omega)) | (with_reducible refine Below.box_ ?_ _) | (with_reducible refine Below.next ?_ (by assumption)))))) (Agg.below fHA.out (by (repeat (first | (with_reducible exact Below.refl _ _) | ((with_reducible refine Below.set ?_ ?_ _); rotate_left; (simp <;> omega)) | (with_reducible refine Below.box_ ?_ _) | (with_reducible refine Below.next ?_ (by assumption)))))))
      apply walkM_eq
      case h =>
        intro yq zq wq hC hd
        obtain ⟨hcq, hfq⟩ := bcell hC
        simp at hd
        refine ⟨by go_simp; done, ?_⟩
        go_simp
        exact rfl
      intro yq zq wq hC hd hdis0
      have hdis := hid hdis0
      clear hdis0
      simp at hd
      have r5 : Below wr.heap.size wr wq := by (repeat (first | (with_reducible exact Below.refl _ _) | ((with_reducible refine Below.set ?_ ?_ _); rotate_left; (simp <;> omega)) | (with_reducible refine Below.box_ ?_ _) | (with_reducible refine Below.next ?_ (by assumption))))
      have r4 : Below w.heap.size w wq := Below.next hb r5
      obtain ⟨hcx, hfx⟩ := bcell r5
      have c1' := (hcx _ _ hsz0).trans c1
      have c2' := (hcx _ _ hsz).trans c2
      have c3' := (hcx _ _ hsz).trans c3
      have hsz' : w.heap.size + 1 < wq.heap.size := Nat.lt_of_lt_of_le hsz r5.size
      by_cases hxy : p = q
      · have hbb : decide (p = q) = true := by simp [hxy]
        have r3 := hid (take_eq_step eHX.out fHX.out ht.out hxy)
        clear hxy
        go_simp
        go_wp2
        first
        | exact ⟨⟨k + 1, r1, num_succ k, r3, r4, hsz', c1', c2', c3'⟩, meas_succ hlt⟩
        | exact ⟨by (repeat apply Exists.intro); exact ⟨⟨k + 1, r1, num_succ k, r3, r4, hsz', c1', c2', c3'⟩, rfl⟩, meas_succ hlt⟩
      · have hbb : decide (p = q) = false := by simp [hxy]
        have HN := hid (ne_at eHX.out fHX.out hxy)
        clear hxy
        go_simp
        go_wp2
        go_ret
        exact ⟨ret_bool (by have : x ≠ y := fun e => HN.out (by rw [e]); simp [this]), r4⟩
    · have hpt := hid (take_all_eq aW0.out.1 bW0.out.1 (by omega) ht.out)
      have hsz0 : w.heap.size < wr.heap.size := by omega
      obtain ⟨wo, rfl⟩ : ∃ wo : World, wo = wr := ⟨_, rfl⟩
      go_wp2
      go_loopw [45] (fun i wr2 => ∃ k : Nat, k ≤ an1 ∧ i = .int .i64 k ∧ Hid (x.triangles.take k = y.triangles.take k) ∧ Below wo.heap.size wo wr2) (fun i wr2 => an1 - (intOf i).toNat)
      case atStart => exact ⟨0, Nat.zero_le _, rfl, rfl, Below.refl _ _⟩
      case round =>
        obtain ⟨j, hj, rfl, htj, hb2⟩ := hrel
        obtain ⟨hcy, hfy⟩ := bcell hb2
        have hb3 : Below w.heap.size w wr := Below.next hb hb2
        have hsz1 : w.heap.size + 1 < wr.heap.size := Nat.lt_of_lt_of_le hsz hb2.size
        have hsz1a : w.heap.size < wr.heap.size := by omega
        have d3 : wr.cell? ⟨w.heap.size + 1, 1, none⟩ = some (.slice bA1 an1 bc1) := (hcy _ _ hsz).trans c3
        clear hcy hfy
        by_cases hlt : j < an1
        · have r1 : j + 1 ≤ an1 := by omega
          obtain ⟨eb, eoff, p, rfl, ehbl, ehx, ee0, ee1, ee2, ee3, ee4, ehag⟩ := TTri.elemA (Sl.below aW1.out hb3) hlt
          have eHX := hid ehx; have eHA := hid ehag
          clear ehx ehag
          obtain ⟨fb, foff, q, rfl, fhbl, fhx, fe0, fe1, fe2, fe3, fe4, fhag⟩ := TTri.elemA (Sl.below bW1.out hb3) hlt
          have fHX := hid fhx; have fHA := hid fhag
          clear fhx fhag
          have hi1 : (0 : Int) ≤ j := by omega
          have hi2 : (j : Int) < an1 := by omega
          go_wp2
          refine wp_region_walk (by kernel_rfl) (by kernel_rfl) (by kernel_rfl) ?_
          iterate 6
            apply walkM_eq
            case h =>
              intro yq zq wq hC hd
              obtain ⟨hcq, hfq⟩ := bcell hC
              simp at hd
              refine ⟨by go_simp; done, ?_⟩
              go_simp
              exact rfl
          refine walkM_eq (.bool (!decide (p = q))) ?_ ?_
          · intro yq zq wq hC hd
            obtain ⟨hcq, hfq⟩ := bcell hC
            simp at hd
            refine ⟨by go_simp; done, ?_⟩
            go_simp
            (rw [tri_dec p q]; (repeat' split) <;> simp_all)
          intro yq zq wq hC hd hdis0
          have hdis := hid hdis0
          clear hdis0
          simp at hd
          have r5 : Below wr.heap.size wr wq := by (repeat (first | (with_reducible exact Below.refl _ _) | ((with_reducible refine Below.set ?_ ?_ _); rotate_left; (simp <;> omega)) | (with_reducible refine Below.box_ ?_ _) | (with_reducible refine Below.next ?_ (by assumption))))
          have r4 : Below wo.heap.size wo wq := Below.next hb2 r5
          by_cases hxy : p = q
          · have hbb : decide (p = q) = true := by simp [hxy]
            have r3 := hid (take_eq_step eHX.out fHX.out htj.out hxy)
            clear hxy
            go_simp
            go_wp2
            first
            | exact ⟨⟨j + 1, r1, num_succ j, r3, r4⟩, meas_succ hlt⟩
            | exact ⟨by (repeat apply Exists.intro); exact ⟨⟨j + 1, r1, num_succ j, r3, r4⟩, rfl⟩, meas_succ hlt⟩
          · have hbb : decide (p = q) = false := by simp [hxy]
            have HN := hid (ne_at eHX.out fHX.out hxy)
            clear hxy
            go_simp
            go_wp2
            go_ret
            exact ⟨ret_bool (by have : x ≠ y := fun e => HN.out (by rw [e]); simp [this]), Below.next hb r4⟩
        · have htr := hid (take_all_eq aW1.out.1 bW1.out.1 (by omega) htj.out)
          go_wp2
          go_ret
          exact ⟨ret_bool (by simp [ext_TMesh hpt.out htr.out]), hb3⟩
end Go.Proofs.Ytmhcfdipnofohaa.X
