/- The laws' comparisons: laws.eq... Written by gen_law.py. -/
import Derived.Test.YtmhcfdipnofohaaRows
import Derived.Test.YtmhcfdipnofohaaXEq
import Derived.Test.YtmhcfdipnofohaaXRegion
import Derived.WalkLawsBesides
import Derived.ProofKit
namespace Go.Proofs.Ytmhcfdipnofohaa.X
open Go.RowKit Go.XB
attribute [local go_sem] fillBy opAt deps depOf Region.wanted yielded
attribute [local simp] deps depOf MP.eq Facts
set_option maxHeartbeats 1000000 in
theorem laws_eqBigInt (v v' : Value) (x y : TBigInt) (bs bs' : List Nat) (w : World) (hx : Agg w v x bs) (hy : Agg w v' y bs') : Calls Try.prog 38 #[v, v'] w (Gives w (.bool (decide (x = y)))) := by
  obtain ⟨A1, nA1, cA1, sA1, rfl, rfl, w1⟩ := TBigInt.agg hx
  obtain ⟨B1, nB1, cB1, sB1, rfl, rfl, v1⟩ := TBigInt.agg hy
  have W1 := hid w1; have V1 := hid v1
  clear hx hy w1 v1
  by_cases q0 : x.neg = y.neg
  rotate_left
  · have g0 : (!x.neg == y.neg) = true := by simp [q0]
    have Q := hid q0; clear q0
    go_enter Try.func38, Try.ntmps38
    go_wp2
    go_ret
    exact ⟨ret_bool (by have : x ≠ y := fun e => Q.out (by rw [e]); simp [this]), by (repeat (first | (with_reducible exact Below.refl _ _) | ((with_reducible refine Below.set ?_ ?_ _); rotate_left; (simp <;> omega)) | (with_reducible refine Below.box_ ?_ _) | (with_reducible refine Below.next ?_ (by assumption))))⟩
  have g0 : (!x.neg == y.neg) = false := by simp [q0]
  have Q0 := hid q0; clear q0
  by_cases q1 : x.mag = y.mag
  rotate_left
  · have g1 : decide (x.mag = y.mag) = false := by simp [q1]
    have Q := hid q1; clear q1
    go_enter Try.func38, Try.ntmps38
    go_wp2_with fail
    refine (laws_eqIntS _ _ _ _ _ _ x.mag y.mag _ _ _ (Sl.below W1.out (by (repeat (first | (with_reducible exact Below.refl _ _) | ((with_reducible refine Below.set ?_ ?_ _); rotate_left; (simp <;> omega)) | (with_reducible refine Below.box_ ?_ _) | (with_reducible refine Below.next ?_ (by assumption)))))) (Sl.below V1.out (by (repeat (first | (with_reducible exact Below.refl _ _) | ((with_reducible refine Below.set ?_ ?_ _); rotate_left; (simp <;> omega)) | (with_reducible refine Below.box_ ?_ _) | (with_reducible refine Below.next ?_ (by assumption))))))).mono ?_
    rintro e u1 ⟨rfl, hb1⟩
    obtain ⟨hc1, hf1⟩ := bcell hb1
    have hz1 : w.heap.size < u1.heap.size ∧ w.heap.size + 1 < u1.heap.size := by have := hb1.size; (try simp at this); omega
    obtain ⟨hz1a, hz1b⟩ := hz1
    go_wp2
    go_ret
    exact ⟨ret_bool (by have : x ≠ y := fun e => Q.out (by rw [e]); simp [this]), by (repeat (first | (with_reducible exact Below.refl _ _) | ((with_reducible refine Below.set ?_ ?_ _); rotate_left; (simp <;> omega)) | (with_reducible refine Below.box_ ?_ _) | (with_reducible refine Below.next ?_ (by assumption))))⟩
  have g1 : decide (x.mag = y.mag) = true := by simp [q1]
  have Q1 := hid q1; clear q1
  go_enter Try.func38, Try.ntmps38
  go_wp2_with fail
  refine (laws_eqIntS _ _ _ _ _ _ x.mag y.mag _ _ _ (Sl.below W1.out (by (repeat (first | (with_reducible exact Below.refl _ _) | ((with_reducible refine Below.set ?_ ?_ _); rotate_left; (simp <;> omega)) | (with_reducible refine Below.box_ ?_ _) | (with_reducible refine Below.next ?_ (by assumption)))))) (Sl.below V1.out (by (repeat (first | (with_reducible exact Below.refl _ _) | ((with_reducible refine Below.set ?_ ?_ _); rotate_left; (simp <;> omega)) | (with_reducible refine Below.box_ ?_ _) | (with_reducible refine Below.next ?_ (by assumption))))))).mono ?_
  rintro e u1 ⟨rfl, hb1⟩
  obtain ⟨hc1, hf1⟩ := bcell hb1
  have hz1 : w.heap.size < u1.heap.size ∧ w.heap.size + 1 < u1.heap.size := by have := hb1.size; (try simp at this); omega
  obtain ⟨hz1a, hz1b⟩ := hz1
  go_wp2
  go_ret
  have heq : x = y := by cases x; cases y; simp only [TBigInt.mk.injEq]; exact ⟨Q0.out, Q1.out⟩
  exact ⟨ret_bool (by simp [heq]), by (repeat (first | (with_reducible exact Below.refl _ _) | ((with_reducible refine Below.set ?_ ?_ _); rotate_left; (simp <;> omega)) | (with_reducible refine Below.box_ ?_ _) | (with_reducible refine Below.next ?_ (by assumption))))⟩
set_option maxHeartbeats 1000000 in
theorem laws_eqRat (v v' : Value) (x y : TRat) (bs bs' : List Nat) (w : World) (hx : Agg w v x bs) (hy : Agg w v' y bs') : Calls Try.prog 22 #[v, v'] w (Gives w (.bool (decide (x = y)))) := by
  obtain ⟨A1, nA1, cA1, sA1, A2, nA2, cA2, sA2, rfl, rfl, w1, w2⟩ := TRat.agg hx
  obtain ⟨B1, nB1, cB1, sB1, B2, nB2, cB2, sB2, rfl, rfl, v1, v2⟩ := TRat.agg hy
  have W1 := hid w1; have V1 := hid v1
  have W2 := hid w2; have V2 := hid v2
  clear hx hy w1 v1 w2 v2
  by_cases q0 : x.num = y.num
  rotate_left
  · have g0 : decide (x.num = y.num) = false := by simp [q0]
    have Q := hid q0; clear q0
    go_enter Try.func22, Try.ntmps22
    go_wp2_with fail
    refine (laws_eqBigInt _ _ x.num y.num _ _ _ (TBigInt.mkAgg (Sl.below W1.out (by (repeat (first | (with_reducible exact Below.refl _ _) | ((with_reducible refine Below.set ?_ ?_ _); rotate_left; (simp <;> omega)) | (with_reducible refine Below.box_ ?_ _) | (with_reducible refine Below.next ?_ (by assumption))))))) (TBigInt.mkAgg (Sl.below V1.out (by (repeat (first | (with_reducible exact Below.refl _ _) | ((with_reducible refine Below.set ?_ ?_ _); rotate_left; (simp <;> omega)) | (with_reducible refine Below.box_ ?_ _) | (with_reducible refine Below.next ?_ (by assumption)))))))).mono ?_
    rintro e u0 ⟨rfl, hb0⟩
    obtain ⟨hc0, hf0⟩ := bcell hb0
    have hz0 : w.heap.size < u0.heap.size ∧ w.heap.size + 1 < u0.heap.size := by have := hb0.size; (try simp at this); omega
    obtain ⟨hz0a, hz0b⟩ := hz0
    go_wp2
    go_ret
    exact ⟨ret_bool (by have : x ≠ y := fun e => Q.out (by rw [e]); simp [this]), by (repeat (first | (with_reducible exact Below.refl _ _) | ((with_reducible refine Below.set ?_ ?_ _); rotate_left; (simp <;> omega)) | (with_reducible refine Below.box_ ?_ _) | (with_reducible refine Below.next ?_ (by assumption))))⟩
  have g0 : decide (x.num = y.num) = true := by simp [q0]
  have Q0 := hid q0; clear q0
  by_cases q1 : x.den = y.den
  rotate_left
  · have g1 : decide (x.den = y.den) = false := by simp [q1]
    have Q := hid q1; clear q1
    go_enter Try.func22, Try.ntmps22
    go_wp2_with fail
    refine (laws_eqBigInt _ _ x.num y.num _ _ _ (TBigInt.mkAgg (Sl.below W1.out (by (repeat (first | (with_reducible exact Below.refl _ _) | ((with_reducible refine Below.set ?_ ?_ _); rotate_left; (simp <;> omega)) | (with_reducible refine Below.box_ ?_ _) | (with_reducible refine Below.next ?_ (by assumption))))))) (TBigInt.mkAgg (Sl.below V1.out (by (repeat (first | (with_reducible exact Below.refl _ _) | ((with_reducible refine Below.set ?_ ?_ _); rotate_left; (simp <;> omega)) | (with_reducible refine Below.box_ ?_ _) | (with_reducible refine Below.next ?_ (by assumption)))))))).mono ?_
    rintro e u0 ⟨rfl, hb0⟩
    obtain ⟨hc0, hf0⟩ := bcell hb0
    have hz0 : w.heap.size < u0.heap.size ∧ w.heap.size + 1 < u0.heap.size := by have := hb0.size; (try simp at this); omega
    obtain ⟨hz0a, hz0b⟩ := hz0
    go_wp2_with fail
    refine (laws_eqIntS _ _ _ _ _ _ x.den y.den _ _ _ (Sl.below W2.out (by (repeat (first | (with_reducible exact Below.refl _ _) | ((with_reducible refine Below.set ?_ ?_ _); rotate_left; (simp <;> omega)) | (with_reducible refine Below.box_ ?_ _) | (with_reducible refine Below.next ?_ (by assumption)))))) (Sl.below V2.out (by (repeat (first | (with_reducible exact Below.refl _ _) | ((with_reducible refine Below.set ?_ ?_ _); rotate_left; (simp <;> omega)) | (with_reducible refine Below.box_ ?_ _) | (with_reducible refine Below.next ?_ (by assumption))))))).mono ?_
    rintro e u1 ⟨rfl, hb1⟩
    obtain ⟨hc1, hf1⟩ := bcell hb1
    have hz1 : w.heap.size < u1.heap.size ∧ w.heap.size + 1 < u1.heap.size := by have := hb1.size; (try simp at this); omega
    obtain ⟨hz1a, hz1b⟩ := hz1
    go_wp2
    go_ret
    exact ⟨ret_bool (by have : x ≠ y := fun e => Q.out (by rw [e]); simp [this]), by (repeat (first | (with_reducible exact Below.refl _ _) | ((with_reducible refine Below.set ?_ ?_ _); rotate_left; (simp <;> omega)) | (with_reducible refine Below.box_ ?_ _) | (with_reducible refine Below.next ?_ (by assumption))))⟩
  have g1 : decide (x.den = y.den) = true := by simp [q1]
  have Q1 := hid q1; clear q1
  go_enter Try.func22, Try.ntmps22
  go_wp2_with fail
  refine (laws_eqBigInt _ _ x.num y.num _ _ _ (TBigInt.mkAgg (Sl.below W1.out (by (repeat (first | (with_reducible exact Below.refl _ _) | ((with_reducible refine Below.set ?_ ?_ _); rotate_left; (simp <;> omega)) | (with_reducible refine Below.box_ ?_ _) | (with_reducible refine Below.next ?_ (by assumption))))))) (TBigInt.mkAgg (Sl.below V1.out (by (repeat (first | (with_reducible exact Below.refl _ _) | ((with_reducible refine Below.set ?_ ?_ _); rotate_left; (simp <;> omega)) | (with_reducible refine Below.box_ ?_ _) | (with_reducible refine Below.next ?_ (by assumption)))))))).mono ?_
  rintro e u0 ⟨rfl, hb0⟩
  obtain ⟨hc0, hf0⟩ := bcell hb0
  have hz0 : w.heap.size < u0.heap.size ∧ w.heap.size + 1 < u0.heap.size := by have := hb0.size; (try simp at this); omega
  obtain ⟨hz0a, hz0b⟩ := hz0
  go_wp2_with fail
  refine (laws_eqIntS _ _ _ _ _ _ x.den y.den _ _ _ (Sl.below W2.out (by (repeat (first | (with_reducible exact Below.refl _ _) | ((with_reducible refine Below.set ?_ ?_ _); rotate_left; (simp <;> omega)) | (with_reducible refine Below.box_ ?_ _) | (with_reducible refine Below.next ?_ (by assumption)))))) (Sl.below V2.out (by (repeat (first | (with_reducible exact Below.refl _ _) | ((with_reducible refine Below.set ?_ ?_ _); rotate_left; (simp <;> omega)) | (with_reducible refine Below.box_ ?_ _) | (with_reducible refine Below.next ?_ (by assumption))))))).mono ?_
  rintro e u1 ⟨rfl, hb1⟩
  obtain ⟨hc1, hf1⟩ := bcell hb1
  have hz1 : w.heap.size < u1.heap.size ∧ w.heap.size + 1 < u1.heap.size := by have := hb1.size; (try simp at this); omega
  obtain ⟨hz1a, hz1b⟩ := hz1
  go_wp2
  go_ret
  have heq : x = y := by cases x; cases y; simp only [TRat.mk.injEq]; exact ⟨Q0.out, Q1.out⟩
  exact ⟨ret_bool (by simp [heq]), by (repeat (first | (with_reducible exact Below.refl _ _) | ((with_reducible refine Below.set ?_ ?_ _); rotate_left; (simp <;> omega)) | (with_reducible refine Below.box_ ?_ _) | (with_reducible refine Below.next ?_ (by assumption))))⟩
set_option maxHeartbeats 1000000 in
theorem laws_eqRatS (A A' : Option Addr) (n n' c c' : Nat) (xs ys : List TRat) (bs bs' : List Nat) (w : World) (hx : Sl w A n c xs bs) (hy : Sl w A' n' c' ys bs') :
    Calls Try.prog 49 #[.slice A n c, .slice A' n' c'] w (Gives w (.bool (decide (xs = ys)))) := by
  have hn : n ≤ maxLen := Nat.le_trans hx.2.1 hx.2.2.1
  have hn' : n' ≤ maxLen := Nat.le_trans hy.2.1 hy.2.2.1
  have HL := hid hx.1; have HL' := hid hy.1
  unfold maxLen at hn hn'
  have HX := hid hx; have HY := hid hy
  clear hx hy
  by_cases hne : n = n'
  · subst hne
    go_enter Try.func49, Try.ntmps49
    go_wp2
    go_loopw [5] (fun i wr => ∃ k : Nat, k ≤ n ∧ i = .int .i64 k ∧ Hid (xs.take k = ys.take k) ∧ Below w.heap.size w wr) (fun i wr => n - (intOf i).toNat)
    case atStart => exact ⟨0, Nat.zero_le _, rfl, rfl, Below.refl _ _⟩
    case round =>
      obtain ⟨k, hk, rfl, ht, hb⟩ := hrel
      by_cases hlt : k < n
      · obtain ⟨be, offe, x, A1, nA1, cA1, sA1, A2, nA2, cA2, sA2, rfl, hble, hxke, ee0, ee1, ee2, e1, e2, hmeme⟩ := TRat.elem (Sl.below HX.out hb) hlt
        obtain ⟨bf, offf, y, B1, nB1, cB1, sB1, B2, nB2, cB2, sB2, rfl, hblf, hxkf, ef0, ef1, ef2, f1, f2, hmemf⟩ := TRat.elem (Sl.below HY.out hb) hlt
        have HXk := hid hxke; have HYk := hid hxkf
        have W1 := hid e1; have V1 := hid f1
        have W2 := hid e2; have V2 := hid f2
        clear hxke hxkf e1 f1 e2 f2 hmeme hmemf
        have hi1 : (0 : Int) ≤ k := by omega
        have hi2 : (k : Int) < n := by omega
        go_wp2
        refine wp_region_walk (by kernel_rfl) (by kernel_rfl) (by kernel_rfl) ?_
        iterate 8
          apply walkM_eq
          case h =>
            intro yq zq wq hC hd
            obtain ⟨hcq, hfq⟩ := bcell hC
            simp at hd
            refine ⟨by go_simp; done, ?_⟩
            go_simp
            exact rfl
        refine walkM_call (MP.eq (.bool (decide (x = y)))) ?_ ?_
        · intro yq zq wq hC hd
          obtain ⟨hcq, hfq⟩ := bcell hC
          simp at hd
          refine ⟨by go_simp; done, ?_⟩
          apply Exists.intro
          apply Exists.intro
          constructor
          · go_simp
            exact ⟨rfl, rfl⟩
          · refine (laws_eqRat _ _ x y _ _ _ (TRat.mkAgg (Sl.below W1.out hC) (Sl.below W2.out hC)) (TRat.mkAgg (Sl.below V1.out hC) (Sl.below V2.out hC))).mono ?_
            rintro e w' ⟨rfl, hb⟩
            exact ⟨_, rfl, hb, [], ⟨rfl, rfl⟩, fun b hb => by simp at hb⟩
        apply walkM_eq
        case h =>
          intro yq zq wq hC hd
          obtain ⟨hcq, hfq⟩ := bcell hC
          simp at hd
          refine ⟨by go_simp; done, ?_⟩
          go_simp
          exact rfl
        intro yq zq wq hC hd hdis0
        have hdis := hid hdis0
        clear hdis0
        simp at hd
        by_cases hxy : x = y
        · have hbb : decide (x = y) = true := by simp [hxy]
          go_simp
          have r1 : k + 1 ≤ n := by omega
          have r3 := hid (take_eq_step HXk.out HYk.out ht.out hxy)
          go_wp2
          first
          | exact ⟨⟨k + 1, r1, num_succ k, r3, Below.next hb hC⟩, meas_succ hlt⟩
          | exact ⟨by (repeat apply Exists.intro); exact ⟨⟨k + 1, r1, num_succ k, r3, Below.next hb hC⟩, rfl⟩, meas_succ hlt⟩
        · have hbb : decide (x = y) = false := by simp [hxy]
          go_simp
          go_wp2
          go_ret
          exact ⟨ret_bool (by simp [ne_at HXk.out HYk.out hxy]), Below.next hb hC⟩
      · go_wp2
        go_ret
        exact ⟨ret_bool (by simp [take_all_eq HL.out HL'.out (by omega) ht.out]), hb⟩
  · have hb : ((n : Int) != n') = true := by simp; omega
    go_enter Try.func49, Try.ntmps49
    go_wp2
    go_ret
    exact ⟨ret_bool (by
      have : xs ≠ ys := fun e => hne (by rw [← HL.out, ← HL'.out, e])
      simp [this]), Below.refl _ _⟩
set_option maxHeartbeats 1000000 in
theorem laws_eqPoint (v v' : Value) (x y : TPoint) (bs bs' : List Nat) (w : World) (hx : Agg w v x bs) (hy : Agg w v' y bs') : Calls Try.prog 64 #[v, v'] w (Gives w (.bool (decide (x = y)))) := by
  obtain ⟨A1, nA1, cA1, sA1, A2, nA2, cA2, sA2, A4, nA4, cA4, sA4, A5, nA5, cA5, sA5, rfl, rfl, w1, w2, w4, w5⟩ := TPoint.agg hx
  obtain ⟨B1, nB1, cB1, sB1, B2, nB2, cB2, sB2, B4, nB4, cB4, sB4, B5, nB5, cB5, sB5, rfl, rfl, v1, v2, v4, v5⟩ := TPoint.agg hy
  have W1 := hid w1; have V1 := hid v1
  have W2 := hid w2; have V2 := hid v2
  have W4 := hid w4; have V4 := hid v4
  have W5 := hid w5; have V5 := hid v5
  clear hx hy w1 v1 w2 v2 w4 v4 w5 v5
  by_cases q0 : x.x = y.x
  rotate_left
  · have g0 : decide (x.x = y.x) = false := by simp [q0]
    have Q := hid q0; clear q0
    go_enter Try.func64, Try.ntmps64
    go_wp2_with fail
    refine (laws_eqRat _ _ x.x y.x _ _ _ (TRat.mkAgg (Sl.below W1.out (by (repeat (first | (with_reducible exact Below.refl _ _) | ((with_reducible refine Below.set ?_ ?_ _); rotate_left; (simp <;> omega)) | (with_reducible refine Below.box_ ?_ _) | (with_reducible refine Below.next ?_ (by assumption)))))) (Sl.below W2.out (by (repeat (first | (with_reducible exact Below.refl _ _) | ((with_reducible refine Below.set ?_ ?_ _); rotate_left; (simp <;> omega)) | (with_reducible refine Below.box_ ?_ _) | (with_reducible refine Below.next ?_ (by assumption))))))) (TRat.mkAgg (Sl.below V1.out (by (repeat (first | (with_reducible exact Below.refl _ _) | ((with_reducible refine Below.set ?_ ?_ _); rotate_left; (simp <;> omega)) | (with_reducible refine Below.box_ ?_ _) | (with_reducible refine Below.next ?_ (by assumption)))))) (Sl.below V2.out (by (repeat (first | (with_reducible exact Below.refl _ _) | ((with_reducible refine Below.set ?_ ?_ _); rotate_left; (simp <;> omega)) | (with_reducible refine Below.box_ ?_ _) | (with_reducible refine Below.next ?_ (by assumption)))))))).mono ?_
    rintro e u0 ⟨rfl, hb0⟩
    obtain ⟨hc0, hf0⟩ := bcell hb0
    have hz0 : w.heap.size < u0.heap.size ∧ w.heap.size + 1 < u0.heap.size := by have := hb0.size; (try simp at this); omega
    obtain ⟨hz0a, hz0b⟩ := hz0
    go_wp2
    go_ret
    exact ⟨ret_bool (by have : x ≠ y := fun e => Q.out (by rw [e]); simp [this]), by (repeat (first | (with_reducible exact Below.refl _ _) | ((with_reducible refine Below.set ?_ ?_ _); rotate_left; (simp <;> omega)) | (with_reducible refine Below.box_ ?_ _) | (with_reducible refine Below.next ?_ (by assumption))))⟩
  have g0 : decide (x.x = y.x) = true := by simp [q0]
  have Q0 := hid q0; clear q0
  by_cases q1 : x.y = y.y
  rotate_left
  · have g1 : decide (x.y = y.y) = false := by simp [q1]
    have Q := hid q1; clear q1
    go_enter Try.func64, Try.ntmps64
    go_wp2_with fail
    refine (laws_eqRat _ _ x.x y.x _ _ _ (TRat.mkAgg (Sl.below W1.out (by (repeat (first | (with_reducible exact Below.refl _ _) | ((with_reducible refine Below.set ?_ ?_ _); rotate_left; (simp <;> omega)) | (with_reducible refine Below.box_ ?_ _) | (with_reducible refine Below.next ?_ (by assumption)))))) (Sl.below W2.out (by (repeat (first | (with_reducible exact Below.refl _ _) | ((with_reducible refine Below.set ?_ ?_ _); rotate_left; (simp <;> omega)) | (with_reducible refine Below.box_ ?_ _) | (with_reducible refine Below.next ?_ (by assumption))))))) (TRat.mkAgg (Sl.below V1.out (by (repeat (first | (with_reducible exact Below.refl _ _) | ((with_reducible refine Below.set ?_ ?_ _); rotate_left; (simp <;> omega)) | (with_reducible refine Below.box_ ?_ _) | (with_reducible refine Below.next ?_ (by assumption)))))) (Sl.below V2.out (by (repeat (first | (with_reducible exact Below.refl _ _) | ((with_reducible refine Below.set ?_ ?_ _); rotate_left; (simp <;> omega)) | (with_reducible refine Below.box_ ?_ _) | (with_reducible refine Below.next ?_ (by assumption)))))))).mono ?_
    rintro e u0 ⟨rfl, hb0⟩
    obtain ⟨hc0, hf0⟩ := bcell hb0
    have hz0 : w.heap.size < u0.heap.size ∧ w.heap.size + 1 < u0.heap.size := by have := hb0.size; (try simp at this); omega
    obtain ⟨hz0a, hz0b⟩ := hz0
    go_wp2_with fail
    refine (laws_eqRat _ _ x.y y.y _ _ _ (TRat.mkAgg (Sl.below W4.out (by (repeat (first | (with_reducible exact Below.refl _ _) | ((with_reducible refine Below.set ?_ ?_ _); rotate_left; (simp <;> omega)) | (with_reducible refine Below.box_ ?_ _) | (with_reducible refine Below.next ?_ (by assumption)))))) (Sl.below W5.out (by (repeat (first | (with_reducible exact Below.refl _ _) | ((with_reducible refine Below.set ?_ ?_ _); rotate_left; (simp <;> omega)) | (with_reducible refine Below.box_ ?_ _) | (with_reducible refine Below.next ?_ (by assumption))))))) (TRat.mkAgg (Sl.below V4.out (by (repeat (first | (with_reducible exact Below.refl _ _) | ((with_reducible refine Below.set ?_ ?_ _); rotate_left; (simp <;> omega)) | (with_reducible refine Below.box_ ?_ _) | (with_reducible refine Below.next ?_ (by assumption)))))) (Sl.below V5.out (by (repeat (first | (with_reducible exact Below.refl _ _) | ((with_reducible refine Below.set ?_ ?_ _); rotate_left; (simp <;> omega)) | (with_reducible refine Below.box_ ?_ _) | (with_reducible refine Below.next ?_ (by assumption)))))))).mono ?_
    rintro e u1 ⟨rfl, hb1⟩
    obtain ⟨hc1, hf1⟩ := bcell hb1
    have hz1 : w.heap.size < u1.heap.size ∧ w.heap.size + 1 < u1.heap.size := by have := hb1.size; (try simp at this); omega
    obtain ⟨hz1a, hz1b⟩ := hz1
    go_wp2
    go_ret
    exact ⟨ret_bool (by have : x ≠ y := fun e => Q.out (by rw [e]); simp [this]), by (repeat (first | (with_reducible exact Below.refl _ _) | ((with_reducible refine Below.set ?_ ?_ _); rotate_left; (simp <;> omega)) | (with_reducible refine Below.box_ ?_ _) | (with_reducible refine Below.next ?_ (by assumption))))⟩
  have g1 : decide (x.y = y.y) = true := by simp [q1]
  have Q1 := hid q1; clear q1
  go_enter Try.func64, Try.ntmps64
  go_wp2_with fail
  refine (laws_eqRat _ _ x.x y.x _ _ _ (TRat.mkAgg (Sl.below W1.out (by (repeat (first | (with_reducible exact Below.refl _ _) | ((with_reducible refine Below.set ?_ ?_ _); rotate_left; (simp <;> omega)) | (with_reducible refine Below.box_ ?_ _) | (with_reducible refine Below.next ?_ (by assumption)))))) (Sl.below W2.out (by (repeat (first | (with_reducible exact Below.refl _ _) | ((with_reducible refine Below.set ?_ ?_ _); rotate_left; (simp <;> omega)) | (with_reducible refine Below.box_ ?_ _) | (with_reducible refine Below.next ?_ (by assumption))))))) (TRat.mkAgg (Sl.below V1.out (by (repeat (first | (with_reducible exact Below.refl _ _) | ((with_reducible refine Below.set ?_ ?_ _); rotate_left; (simp <;> omega)) | (with_reducible refine Below.box_ ?_ _) | (with_reducible refine Below.next ?_ (by assumption)))))) (Sl.below V2.out (by (repeat (first | (with_reducible exact Below.refl _ _) | ((with_reducible refine Below.set ?_ ?_ _); rotate_left; (simp <;> omega)) | (with_reducible refine Below.box_ ?_ _) | (with_reducible refine Below.next ?_ (by assumption)))))))).mono ?_
  rintro e u0 ⟨rfl, hb0⟩
  obtain ⟨hc0, hf0⟩ := bcell hb0
  have hz0 : w.heap.size < u0.heap.size ∧ w.heap.size + 1 < u0.heap.size := by have := hb0.size; (try simp at this); omega
  obtain ⟨hz0a, hz0b⟩ := hz0
  go_wp2_with fail
  refine (laws_eqRat _ _ x.y y.y _ _ _ (TRat.mkAgg (Sl.below W4.out (by (repeat (first | (with_reducible exact Below.refl _ _) | ((with_reducible refine Below.set ?_ ?_ _); rotate_left; (simp <;> omega)) | (with_reducible refine Below.box_ ?_ _) | (with_reducible refine Below.next ?_ (by assumption)))))) (Sl.below W5.out (by (repeat (first | (with_reducible exact Below.refl _ _) | ((with_reducible refine Below.set ?_ ?_ _); rotate_left; (simp <;> omega)) | (with_reducible refine Below.box_ ?_ _) | (with_reducible refine Below.next ?_ (by assumption))))))) (TRat.mkAgg (Sl.below V4.out (by (repeat (first | (with_reducible exact Below.refl _ _) | ((with_reducible refine Below.set ?_ ?_ _); rotate_left; (simp <;> omega)) | (with_reducible refine Below.box_ ?_ _) | (with_reducible refine Below.next ?_ (by assumption)))))) (Sl.below V5.out (by (repeat (first | (with_reducible exact Below.refl _ _) | ((with_reducible refine Below.set ?_ ?_ _); rotate_left; (simp <;> omega)) | (with_reducible refine Below.box_ ?_ _) | (with_reducible refine Below.next ?_ (by assumption)))))))).mono ?_
  rintro e u1 ⟨rfl, hb1⟩
  obtain ⟨hc1, hf1⟩ := bcell hb1
  have hz1 : w.heap.size < u1.heap.size ∧ w.heap.size + 1 < u1.heap.size := by have := hb1.size; (try simp at this); omega
  obtain ⟨hz1a, hz1b⟩ := hz1
  go_wp2
  go_ret
  have heq : x = y := by cases x; cases y; simp only [TPoint.mk.injEq]; exact ⟨Q0.out, Q1.out⟩
  exact ⟨ret_bool (by simp [heq]), by (repeat (first | (with_reducible exact Below.refl _ _) | ((with_reducible refine Below.set ?_ ?_ _); rotate_left; (simp <;> omega)) | (with_reducible refine Below.box_ ?_ _) | (with_reducible refine Below.next ?_ (by assumption))))⟩
set_option maxHeartbeats 1000000 in
theorem laws_eqPointS (A A' : Option Addr) (n n' c c' : Nat) (xs ys : List TPoint) (bs bs' : List Nat) (w : World) (hx : Sl w A n c xs bs) (hy : Sl w A' n' c' ys bs') :
    Calls Try.prog 59 #[.slice A n c, .slice A' n' c'] w (Gives w (.bool (decide (xs = ys)))) := by
  have hn : n ≤ maxLen := Nat.le_trans hx.2.1 hx.2.2.1
  have hn' : n' ≤ maxLen := Nat.le_trans hy.2.1 hy.2.2.1
  have HL := hid hx.1; have HL' := hid hy.1
  unfold maxLen at hn hn'
  have HX := hid hx; have HY := hid hy
  clear hx hy
  by_cases hne : n = n'
  · subst hne
    go_enter Try.func59, Try.ntmps59
    go_wp2
    go_loopw [5] (fun i wr => ∃ k : Nat, k ≤ n ∧ i = .int .i64 k ∧ Hid (xs.take k = ys.take k) ∧ Below w.heap.size w wr) (fun i wr => n - (intOf i).toNat)
    case atStart => exact ⟨0, Nat.zero_le _, rfl, rfl, Below.refl _ _⟩
    case round =>
      obtain ⟨k, hk, rfl, ht, hb⟩ := hrel
      by_cases hlt : k < n
      · obtain ⟨be, offe, x, A1, nA1, cA1, sA1, A2, nA2, cA2, sA2, A4, nA4, cA4, sA4, A5, nA5, cA5, sA5, rfl, hble, hxke, ee0, ee1, ee2, ee3, ee4, ee5, e1, e2, e4, e5, hmeme⟩ := TPoint.elem (Sl.below HX.out hb) hlt
        obtain ⟨bf, offf, y, B1, nB1, cB1, sB1, B2, nB2, cB2, sB2, B4, nB4, cB4, sB4, B5, nB5, cB5, sB5, rfl, hblf, hxkf, ef0, ef1, ef2, ef3, ef4, ef5, f1, f2, f4, f5, hmemf⟩ := TPoint.elem (Sl.below HY.out hb) hlt
        have HXk := hid hxke; have HYk := hid hxkf
        have W1 := hid e1; have V1 := hid f1
        have W2 := hid e2; have V2 := hid f2
        have W4 := hid e4; have V4 := hid f4
        have W5 := hid e5; have V5 := hid f5
        clear hxke hxkf e1 f1 e2 f2 e4 f4 e5 f5 hmeme hmemf
        have hi1 : (0 : Int) ≤ k := by omega
        have hi2 : (k : Int) < n := by omega
        go_wp2
        refine wp_region_walk (by kernel_rfl) (by kernel_rfl) (by kernel_rfl) ?_
        iterate 8
          apply walkM_eq
          case h =>
            intro yq zq wq hC hd
            obtain ⟨hcq, hfq⟩ := bcell hC
            simp at hd
            refine ⟨by go_simp; done, ?_⟩
            go_simp
            exact rfl
        refine walkM_call (MP.eq (.bool (decide (x = y)))) ?_ ?_
        · intro yq zq wq hC hd
          obtain ⟨hcq, hfq⟩ := bcell hC
          simp at hd
          refine ⟨by go_simp; done, ?_⟩
          apply Exists.intro
          apply Exists.intro
          constructor
          · go_simp
            exact ⟨rfl, rfl⟩
          · refine (laws_eqPoint _ _ x y _ _ _ (TPoint.mkAgg (Sl.below W1.out hC) (Sl.below W2.out hC) (Sl.below W4.out hC) (Sl.below W5.out hC)) (TPoint.mkAgg (Sl.below V1.out hC) (Sl.below V2.out hC) (Sl.below V4.out hC) (Sl.below V5.out hC))).mono ?_
            rintro e w' ⟨rfl, hb⟩
            exact ⟨_, rfl, hb, [], ⟨rfl, rfl⟩, fun b hb => by simp at hb⟩
        apply walkM_eq
        case h =>
          intro yq zq wq hC hd
          obtain ⟨hcq, hfq⟩ := bcell hC
          simp at hd
          refine ⟨by go_simp; done, ?_⟩
          go_simp
          exact rfl
        intro yq zq wq hC hd hdis0
        have hdis := hid hdis0
        clear hdis0
        simp at hd
        by_cases hxy : x = y
        · have hbb : decide (x = y) = true := by simp [hxy]
          go_simp
          have r1 : k + 1 ≤ n := by omega
          have r3 := hid (take_eq_step HXk.out HYk.out ht.out hxy)
          go_wp2
          first
          | exact ⟨⟨k + 1, r1, num_succ k, r3, Below.next hb hC⟩, meas_succ hlt⟩
          | exact ⟨by (repeat apply Exists.intro); exact ⟨⟨k + 1, r1, num_succ k, r3, Below.next hb hC⟩, rfl⟩, meas_succ hlt⟩
        · have hbb : decide (x = y) = false := by simp [hxy]
          go_simp
          go_wp2
          go_ret
          exact ⟨ret_bool (by simp [ne_at HXk.out HYk.out hxy]), Below.next hb hC⟩
      · go_wp2
        go_ret
        exact ⟨ret_bool (by simp [take_all_eq HL.out HL'.out (by omega) ht.out]), hb⟩
  · have hb : ((n : Int) != n') = true := by simp; omega
    go_enter Try.func59, Try.ntmps59
    go_wp2
    go_ret
    exact ⟨ret_bool (by
      have : xs ≠ ys := fun e => hne (by rw [← HL.out, ← HL'.out, e])
      simp [this]), Below.refl _ _⟩
set_option maxHeartbeats 1000000 in
theorem laws_eqTri (v v' : Value) (x y : TTri) (bs bs' : List Nat) (w : World) (hx : Agg w v x bs) (hy : Agg w v' y bs') : Calls Try.prog 65 #[v, v'] w (Gives w (.bool (decide (x = y)))) := by
  obtain ⟨rfl, rfl, w0, w1, w2, w3, w4⟩ := TTri.agg hx
  obtain ⟨rfl, rfl, v0, v1, v2, v3, v4⟩ := TTri.agg hy
  have W0 := hid w0; have V0 := hid v0
  have W1 := hid w1; have V1 := hid v1
  have W2 := hid w2; have V2 := hid v2
  have W3 := hid w3; have V3 := hid v3
  have W4 := hid w4; have V4 := hid v4
  clear hx hy w0 v0 w1 v1 w2 v2 w3 v3 w4 v4
  by_cases q0 : x.a = y.a
  rotate_left
  · have g0 : (x.a != y.a) = true := by simp [q0]
    have Q := hid q0; clear q0
    go_enter Try.func65, Try.ntmps65
    go_wp2
    go_ret
    exact ⟨ret_bool (by have : x ≠ y := fun e => Q.out (by rw [e]); simp [this]), by (repeat (first | (with_reducible exact Below.refl _ _) | ((with_reducible refine Below.set ?_ ?_ _); rotate_left; (simp <;> omega)) | (with_reducible refine Below.box_ ?_ _) | (with_reducible refine Below.next ?_ (by assumption))))⟩
  have g0 : (x.a != y.a) = false := by simp [q0]
  have Q0 := hid q0; clear q0
  by_cases q1 : x.b = y.b
  rotate_left
  · have g1 : (x.b != y.b) = true := by simp [q1]
    have Q := hid q1; clear q1
    go_enter Try.func65, Try.ntmps65
    go_wp2
    go_ret
    exact ⟨ret_bool (by have : x ≠ y := fun e => Q.out (by rw [e]); simp [this]), by (repeat (first | (with_reducible exact Below.refl _ _) | ((with_reducible refine Below.set ?_ ?_ _); rotate_left; (simp <;> omega)) | (with_reducible refine Below.box_ ?_ _) | (with_reducible refine Below.next ?_ (by assumption))))⟩
  have g1 : (x.b != y.b) = false := by simp [q1]
  have Q1 := hid q1; clear q1
  by_cases q2 : x.c = y.c
  rotate_left
  · have g2 : (x.c != y.c) = true := by simp [q2]
    have Q := hid q2; clear q2
    go_enter Try.func65, Try.ntmps65
    go_wp2
    go_ret
    exact ⟨ret_bool (by have : x ≠ y := fun e => Q.out (by rw [e]); simp [this]), by (repeat (first | (with_reducible exact Below.refl _ _) | ((with_reducible refine Below.set ?_ ?_ _); rotate_left; (simp <;> omega)) | (with_reducible refine Below.box_ ?_ _) | (with_reducible refine Below.next ?_ (by assumption))))⟩
  have g2 : (x.c != y.c) = false := by simp [q2]
  have Q2 := hid q2; clear q2
  by_cases q3 : x.region = y.region
  rotate_left
  · have g3 : (x.region != y.region) = true := by simp [q3]
    have Q := hid q3; clear q3
    go_enter Try.func65, Try.ntmps65
    go_wp2
    go_ret
    exact ⟨ret_bool (by have : x ≠ y := fun e => Q.out (by rw [e]); simp [this]), by (repeat (first | (with_reducible exact Below.refl _ _) | ((with_reducible refine Below.set ?_ ?_ _); rotate_left; (simp <;> omega)) | (with_reducible refine Below.box_ ?_ _) | (with_reducible refine Below.next ?_ (by assumption))))⟩
  have g3 : (x.region != y.region) = false := by simp [q3]
  have Q3 := hid q3; clear q3
  by_cases q4 : x.level = y.level
  rotate_left
  · have g4 : (x.level != y.level) = true := by simp [q4]
    have Q := hid q4; clear q4
    go_enter Try.func65, Try.ntmps65
    go_wp2
    go_ret
    exact ⟨ret_bool (by have : x ≠ y := fun e => Q.out (by rw [e]); simp [this]), by (repeat (first | (with_reducible exact Below.refl _ _) | ((with_reducible refine Below.set ?_ ?_ _); rotate_left; (simp <;> omega)) | (with_reducible refine Below.box_ ?_ _) | (with_reducible refine Below.next ?_ (by assumption))))⟩
  have g4 : (x.level != y.level) = false := by simp [q4]
  have Q4 := hid q4; clear q4
  go_enter Try.func65, Try.ntmps65
  go_wp2
  go_ret
  have heq : x = y := by cases x; cases y; simp only [TTri.mk.injEq]; exact ⟨Q0.out, Q1.out, Q2.out, Q3.out, Q4.out⟩
  exact ⟨ret_bool (by simp [heq]), by (repeat (first | (with_reducible exact Below.refl _ _) | ((with_reducible refine Below.set ?_ ?_ _); rotate_left; (simp <;> omega)) | (with_reducible refine Below.box_ ?_ _) | (with_reducible refine Below.next ?_ (by assumption))))⟩
set_option maxHeartbeats 1000000 in
theorem laws_eqTriS (A A' : Option Addr) (n n' c c' : Nat) (xs ys : List TTri) (bs bs' : List Nat) (w : World) (hx : Sl w A n c xs bs) (hy : Sl w A' n' c' ys bs') :
    Calls Try.prog 60 #[.slice A n c, .slice A' n' c'] w (Gives w (.bool (decide (xs = ys)))) := by
  have hn : n ≤ maxLen := Nat.le_trans hx.2.1 hx.2.2.1
  have hn' : n' ≤ maxLen := Nat.le_trans hy.2.1 hy.2.2.1
  have HL := hid hx.1; have HL' := hid hy.1
  unfold maxLen at hn hn'
  have HX := hid hx; have HY := hid hy
  clear hx hy
  by_cases hne : n = n'
  · subst hne
    go_enter Try.func60, Try.ntmps60
    go_wp2
    go_loopw [5] (fun i wr => ∃ k : Nat, k ≤ n ∧ i = .int .i64 k ∧ Hid (xs.take k = ys.take k) ∧ Below w.heap.size w wr) (fun i wr => n - (intOf i).toNat)
    case atStart => exact ⟨0, Nat.zero_le _, rfl, rfl, Below.refl _ _⟩
    case round =>
      obtain ⟨k, hk, rfl, ht, hb⟩ := hrel
      by_cases hlt : k < n
      · obtain ⟨be, offe, x, rfl, hble, hxke, ee0, ee1, ee2, ee3, ee4, e0, e1, e2, e3, e4⟩ := TTri.elem (Sl.below HX.out hb) hlt
        obtain ⟨bf, offf, y, rfl, hblf, hxkf, ef0, ef1, ef2, ef3, ef4, f0, f1, f2, f3, f4⟩ := TTri.elem (Sl.below HY.out hb) hlt
        have HXk := hid hxke; have HYk := hid hxkf
        have W0 := hid e0; have V0 := hid f0
        have W1 := hid e1; have V1 := hid f1
        have W2 := hid e2; have V2 := hid f2
        have W3 := hid e3; have V3 := hid f3
        have W4 := hid e4; have V4 := hid f4
        clear hxke hxkf e0 f0 e1 f1 e2 f2 e3 f3 e4 f4
        have hi1 : (0 : Int) ≤ k := by omega
        have hi2 : (k : Int) < n := by omega
        go_wp2
        refine wp_region_walk (by kernel_rfl) (by kernel_rfl) (by kernel_rfl) ?_
        iterate 8
          apply walkM_eq
          case h =>
            intro yq zq wq hC hd
            obtain ⟨hcq, hfq⟩ := bcell hC
            simp at hd
            refine ⟨by go_simp; done, ?_⟩
            go_simp
            exact rfl
        refine walkM_call (MP.eq (.bool (decide (x = y)))) ?_ ?_
        · intro yq zq wq hC hd
          obtain ⟨hcq, hfq⟩ := bcell hC
          simp at hd
          refine ⟨by go_simp; done, ?_⟩
          apply Exists.intro
          apply Exists.intro
          constructor
          · go_simp
            exact ⟨rfl, rfl⟩
          · refine (laws_eqTri _ _ x y _ _ _ (TTri.mkAgg W0.out W1.out W2.out W3.out W4.out) (TTri.mkAgg V0.out V1.out V2.out V3.out V4.out)).mono ?_
            rintro e w' ⟨rfl, hb⟩
            exact ⟨_, rfl, hb, [], ⟨rfl, rfl⟩, fun b hb => by simp at hb⟩
        apply walkM_eq
        case h =>
          intro yq zq wq hC hd
          obtain ⟨hcq, hfq⟩ := bcell hC
          simp at hd
          refine ⟨by go_simp; done, ?_⟩
          go_simp
          exact rfl
        intro yq zq wq hC hd hdis0
        have hdis := hid hdis0
        clear hdis0
        simp at hd
        by_cases hxy : x = y
        · have hbb : decide (x = y) = true := by simp [hxy]
          go_simp
          have r1 : k + 1 ≤ n := by omega
          have r3 := hid (take_eq_step HXk.out HYk.out ht.out hxy)
          go_wp2
          first
          | exact ⟨⟨k + 1, r1, num_succ k, r3, Below.next hb hC⟩, meas_succ hlt⟩
          | exact ⟨by (repeat apply Exists.intro); exact ⟨⟨k + 1, r1, num_succ k, r3, Below.next hb hC⟩, rfl⟩, meas_succ hlt⟩
        · have hbb : decide (x = y) = false := by simp [hxy]
          go_simp
          go_wp2
          go_ret
          exact ⟨ret_bool (by simp [ne_at HXk.out HYk.out hxy]), Below.next hb hC⟩
      · go_wp2
        go_ret
        exact ⟨ret_bool (by simp [take_all_eq HL.out HL'.out (by omega) ht.out]), hb⟩
  · have hb : ((n : Int) != n') = true := by simp; omega
    go_enter Try.func60, Try.ntmps60
    go_wp2
    go_ret
    exact ⟨ret_bool (by
      have : xs ≠ ys := fun e => hne (by rw [← HL.out, ← HL'.out, e])
      simp [this]), Below.refl _ _⟩
set_option maxHeartbeats 1000000 in
theorem laws_eqMesh (v v' : Value) (x y : TMesh) (bs bs' : List Nat) (w : World) (hx : Agg w v x bs) (hy : Agg w v' y bs') : Calls Try.prog 48 #[v, v'] w (Gives w (.bool (decide (x = y)))) := by
  obtain ⟨A0, nA0, cA0, sA0, A1, nA1, cA1, sA1, rfl, rfl, w0, w1⟩ := TMesh.agg hx
  obtain ⟨B0, nB0, cB0, sB0, B1, nB1, cB1, sB1, rfl, rfl, v0, v1⟩ := TMesh.agg hy
  have W0 := hid w0; have V0 := hid v0
  have W1 := hid w1; have V1 := hid v1
  clear hx hy w0 v0 w1 v1
  by_cases q0 : x.points = y.points
  rotate_left
  · have g0 : decide (x.points = y.points) = false := by simp [q0]
    have Q := hid q0; clear q0
    go_enter Try.func48, Try.ntmps48
    go_wp2_with fail
    refine (laws_eqPointS _ _ _ _ _ _ x.points y.points _ _ _ (Sl.below W0.out (by (repeat (first | (with_reducible exact Below.refl _ _) | ((with_reducible refine Below.set ?_ ?_ _); rotate_left; (simp <;> omega)) | (with_reducible refine Below.box_ ?_ _) | (with_reducible refine Below.next ?_ (by assumption)))))) (Sl.below V0.out (by (repeat (first | (with_reducible exact Below.refl _ _) | ((with_reducible refine Below.set ?_ ?_ _); rotate_left; (simp <;> omega)) | (with_reducible refine Below.box_ ?_ _) | (with_reducible refine Below.next ?_ (by assumption))))))).mono ?_
    rintro e u0 ⟨rfl, hb0⟩
    obtain ⟨hc0, hf0⟩ := bcell hb0
    have hz0 : w.heap.size < u0.heap.size ∧ w.heap.size + 1 < u0.heap.size := by have := hb0.size; (try simp at this); omega
    obtain ⟨hz0a, hz0b⟩ := hz0
    go_wp2
    go_ret
    exact ⟨ret_bool (by have : x ≠ y := fun e => Q.out (by rw [e]); simp [this]), by (repeat (first | (with_reducible exact Below.refl _ _) | ((with_reducible refine Below.set ?_ ?_ _); rotate_left; (simp <;> omega)) | (with_reducible refine Below.box_ ?_ _) | (with_reducible refine Below.next ?_ (by assumption))))⟩
  have g0 : decide (x.points = y.points) = true := by simp [q0]
  have Q0 := hid q0; clear q0
  by_cases q1 : x.triangles = y.triangles
  rotate_left
  · have g1 : decide (x.triangles = y.triangles) = false := by simp [q1]
    have Q := hid q1; clear q1
    go_enter Try.func48, Try.ntmps48
    go_wp2_with fail
    refine (laws_eqPointS _ _ _ _ _ _ x.points y.points _ _ _ (Sl.below W0.out (by (repeat (first | (with_reducible exact Below.refl _ _) | ((with_reducible refine Below.set ?_ ?_ _); rotate_left; (simp <;> omega)) | (with_reducible refine Below.box_ ?_ _) | (with_reducible refine Below.next ?_ (by assumption)))))) (Sl.below V0.out (by (repeat (first | (with_reducible exact Below.refl _ _) | ((with_reducible refine Below.set ?_ ?_ _); rotate_left; (simp <;> omega)) | (with_reducible refine Below.box_ ?_ _) | (with_reducible refine Below.next ?_ (by assumption))))))).mono ?_
    rintro e u0 ⟨rfl, hb0⟩
    obtain ⟨hc0, hf0⟩ := bcell hb0
    have hz0 : w.heap.size < u0.heap.size ∧ w.heap.size + 1 < u0.heap.size := by have := hb0.size; (try simp at this); omega
    obtain ⟨hz0a, hz0b⟩ := hz0
    go_wp2_with fail
    refine (laws_eqTriS _ _ _ _ _ _ x.triangles y.triangles _ _ _ (Sl.below W1.out (by (repeat (first | (with_reducible exact Below.refl _ _) | ((with_reducible refine Below.set ?_ ?_ _); rotate_left; (simp <;> omega)) | (with_reducible refine Below.box_ ?_ _) | (with_reducible refine Below.next ?_ (by assumption)))))) (Sl.below V1.out (by (repeat (first | (with_reducible exact Below.refl _ _) | ((with_reducible refine Below.set ?_ ?_ _); rotate_left; (simp <;> omega)) | (with_reducible refine Below.box_ ?_ _) | (with_reducible refine Below.next ?_ (by assumption))))))).mono ?_
    rintro e u1 ⟨rfl, hb1⟩
    obtain ⟨hc1, hf1⟩ := bcell hb1
    have hz1 : w.heap.size < u1.heap.size ∧ w.heap.size + 1 < u1.heap.size := by have := hb1.size; (try simp at this); omega
    obtain ⟨hz1a, hz1b⟩ := hz1
    go_wp2
    go_ret
    exact ⟨ret_bool (by have : x ≠ y := fun e => Q.out (by rw [e]); simp [this]), by (repeat (first | (with_reducible exact Below.refl _ _) | ((with_reducible refine Below.set ?_ ?_ _); rotate_left; (simp <;> omega)) | (with_reducible refine Below.box_ ?_ _) | (with_reducible refine Below.next ?_ (by assumption))))⟩
  have g1 : decide (x.triangles = y.triangles) = true := by simp [q1]
  have Q1 := hid q1; clear q1
  go_enter Try.func48, Try.ntmps48
  go_wp2_with fail
  refine (laws_eqPointS _ _ _ _ _ _ x.points y.points _ _ _ (Sl.below W0.out (by (repeat (first | (with_reducible exact Below.refl _ _) | ((with_reducible refine Below.set ?_ ?_ _); rotate_left; (simp <;> omega)) | (with_reducible refine Below.box_ ?_ _) | (with_reducible refine Below.next ?_ (by assumption)))))) (Sl.below V0.out (by (repeat (first | (with_reducible exact Below.refl _ _) | ((with_reducible refine Below.set ?_ ?_ _); rotate_left; (simp <;> omega)) | (with_reducible refine Below.box_ ?_ _) | (with_reducible refine Below.next ?_ (by assumption))))))).mono ?_
  rintro e u0 ⟨rfl, hb0⟩
  obtain ⟨hc0, hf0⟩ := bcell hb0
  have hz0 : w.heap.size < u0.heap.size ∧ w.heap.size + 1 < u0.heap.size := by have := hb0.size; (try simp at this); omega
  obtain ⟨hz0a, hz0b⟩ := hz0
  go_wp2_with fail
  refine (laws_eqTriS _ _ _ _ _ _ x.triangles y.triangles _ _ _ (Sl.below W1.out (by (repeat (first | (with_reducible exact Below.refl _ _) | ((with_reducible refine Below.set ?_ ?_ _); rotate_left; (simp <;> omega)) | (with_reducible refine Below.box_ ?_ _) | (with_reducible refine Below.next ?_ (by assumption)))))) (Sl.below V1.out (by (repeat (first | (with_reducible exact Below.refl _ _) | ((with_reducible refine Below.set ?_ ?_ _); rotate_left; (simp <;> omega)) | (with_reducible refine Below.box_ ?_ _) | (with_reducible refine Below.next ?_ (by assumption))))))).mono ?_
  rintro e u1 ⟨rfl, hb1⟩
  obtain ⟨hc1, hf1⟩ := bcell hb1
  have hz1 : w.heap.size < u1.heap.size ∧ w.heap.size + 1 < u1.heap.size := by have := hb1.size; (try simp at this); omega
  obtain ⟨hz1a, hz1b⟩ := hz1
  go_wp2
  go_ret
  have heq : x = y := by cases x; cases y; simp only [TMesh.mk.injEq]; exact ⟨Q0.out, Q1.out⟩
  exact ⟨ret_bool (by simp [heq]), by (repeat (first | (with_reducible exact Below.refl _ _) | ((with_reducible refine Below.set ?_ ?_ _); rotate_left; (simp <;> omega)) | (with_reducible refine Below.box_ ?_ _) | (with_reducible refine Below.next ?_ (by assumption))))⟩
set_option maxHeartbeats 1000000 in
theorem laws_eqProblem (v v' : Value) (x y : TProblem) (bs bs' : List Nat) (w : World) (hx : Agg w v x bs) (hy : Agg w v' y bs') : Calls Try.prog 30 #[v, v'] w (Gives w (.bool (decide (x = y)))) := by
  obtain ⟨A0, nA0, cA0, sA0, A1, nA1, cA1, sA1, A2, nA2, cA2, sA2, A3, nA3, cA3, sA3, rfl, rfl, w0, w1, w2, w3⟩ := TProblem.agg hx
  obtain ⟨B0, nB0, cB0, sB0, B1, nB1, cB1, sB1, B2, nB2, cB2, sB2, B3, nB3, cB3, sB3, rfl, rfl, v0, v1, v2, v3⟩ := TProblem.agg hy
  have W0 := hid w0; have V0 := hid v0
  have W1 := hid w1; have V1 := hid v1
  have W2 := hid w2; have V2 := hid v2
  have W3 := hid w3; have V3 := hid v3
  clear hx hy w0 v0 w1 v1 w2 v2 w3 v3
  by_cases q0 : x.mesh = y.mesh
  rotate_left
  · have g0 : decide (x.mesh = y.mesh) = false := by simp [q0]
    have Q := hid q0; clear q0
    go_enter Try.func30, Try.ntmps30
    go_wp2_with fail
    refine (laws_eqMesh _ _ x.mesh y.mesh _ _ _ (TMesh.mkAgg (Sl.below W0.out (by (repeat (first | (with_reducible exact Below.refl _ _) | ((with_reducible refine Below.set ?_ ?_ _); rotate_left; (simp <;> omega)) | (with_reducible refine Below.box_ ?_ _) | (with_reducible refine Below.next ?_ (by assumption)))))) (Sl.below W1.out (by (repeat (first | (with_reducible exact Below.refl _ _) | ((with_reducible refine Below.set ?_ ?_ _); rotate_left; (simp <;> omega)) | (with_reducible refine Below.box_ ?_ _) | (with_reducible refine Below.next ?_ (by assumption))))))) (TMesh.mkAgg (Sl.below V0.out (by (repeat (first | (with_reducible exact Below.refl _ _) | ((with_reducible refine Below.set ?_ ?_ _); rotate_left; (simp <;> omega)) | (with_reducible refine Below.box_ ?_ _) | (with_reducible refine Below.next ?_ (by assumption)))))) (Sl.below V1.out (by (repeat (first | (with_reducible exact Below.refl _ _) | ((with_reducible refine Below.set ?_ ?_ _); rotate_left; (simp <;> omega)) | (with_reducible refine Below.box_ ?_ _) | (with_reducible refine Below.next ?_ (by assumption)))))))).mono ?_
    rintro e u0 ⟨rfl, hb0⟩
    obtain ⟨hc0, hf0⟩ := bcell hb0
    have hz0 : w.heap.size < u0.heap.size ∧ w.heap.size + 1 < u0.heap.size := by have := hb0.size; (try simp at this); omega
    obtain ⟨hz0a, hz0b⟩ := hz0
    go_wp2
    go_ret
    exact ⟨ret_bool (by have : x ≠ y := fun e => Q.out (by rw [e]); simp [this]), by (repeat (first | (with_reducible exact Below.refl _ _) | ((with_reducible refine Below.set ?_ ?_ _); rotate_left; (simp <;> omega)) | (with_reducible refine Below.box_ ?_ _) | (with_reducible refine Below.next ?_ (by assumption))))⟩
  have g0 : decide (x.mesh = y.mesh) = true := by simp [q0]
  have Q0 := hid q0; clear q0
  by_cases q1 : x.diffusion = y.diffusion
  rotate_left
  · have g1 : decide (x.diffusion = y.diffusion) = false := by simp [q1]
    have Q := hid q1; clear q1
    go_enter Try.func30, Try.ntmps30
    go_wp2_with fail
    refine (laws_eqMesh _ _ x.mesh y.mesh _ _ _ (TMesh.mkAgg (Sl.below W0.out (by (repeat (first | (with_reducible exact Below.refl _ _) | ((with_reducible refine Below.set ?_ ?_ _); rotate_left; (simp <;> omega)) | (with_reducible refine Below.box_ ?_ _) | (with_reducible refine Below.next ?_ (by assumption)))))) (Sl.below W1.out (by (repeat (first | (with_reducible exact Below.refl _ _) | ((with_reducible refine Below.set ?_ ?_ _); rotate_left; (simp <;> omega)) | (with_reducible refine Below.box_ ?_ _) | (with_reducible refine Below.next ?_ (by assumption))))))) (TMesh.mkAgg (Sl.below V0.out (by (repeat (first | (with_reducible exact Below.refl _ _) | ((with_reducible refine Below.set ?_ ?_ _); rotate_left; (simp <;> omega)) | (with_reducible refine Below.box_ ?_ _) | (with_reducible refine Below.next ?_ (by assumption)))))) (Sl.below V1.out (by (repeat (first | (with_reducible exact Below.refl _ _) | ((with_reducible refine Below.set ?_ ?_ _); rotate_left; (simp <;> omega)) | (with_reducible refine Below.box_ ?_ _) | (with_reducible refine Below.next ?_ (by assumption)))))))).mono ?_
    rintro e u0 ⟨rfl, hb0⟩
    obtain ⟨hc0, hf0⟩ := bcell hb0
    have hz0 : w.heap.size < u0.heap.size ∧ w.heap.size + 1 < u0.heap.size := by have := hb0.size; (try simp at this); omega
    obtain ⟨hz0a, hz0b⟩ := hz0
    go_wp2_with fail
    refine (laws_eqRatS _ _ _ _ _ _ x.diffusion y.diffusion _ _ _ (Sl.below W2.out (by (repeat (first | (with_reducible exact Below.refl _ _) | ((with_reducible refine Below.set ?_ ?_ _); rotate_left; (simp <;> omega)) | (with_reducible refine Below.box_ ?_ _) | (with_reducible refine Below.next ?_ (by assumption)))))) (Sl.below V2.out (by (repeat (first | (with_reducible exact Below.refl _ _) | ((with_reducible refine Below.set ?_ ?_ _); rotate_left; (simp <;> omega)) | (with_reducible refine Below.box_ ?_ _) | (with_reducible refine Below.next ?_ (by assumption))))))).mono ?_
    rintro e u1 ⟨rfl, hb1⟩
    obtain ⟨hc1, hf1⟩ := bcell hb1
    have hz1 : w.heap.size < u1.heap.size ∧ w.heap.size + 1 < u1.heap.size := by have := hb1.size; (try simp at this); omega
    obtain ⟨hz1a, hz1b⟩ := hz1
    go_wp2
    go_ret
    exact ⟨ret_bool (by have : x ≠ y := fun e => Q.out (by rw [e]); simp [this]), by (repeat (first | (with_reducible exact Below.refl _ _) | ((with_reducible refine Below.set ?_ ?_ _); rotate_left; (simp <;> omega)) | (with_reducible refine Below.box_ ?_ _) | (with_reducible refine Below.next ?_ (by assumption))))⟩
  have g1 : decide (x.diffusion = y.diffusion) = true := by simp [q1]
  have Q1 := hid q1; clear q1
  by_cases q2 : x.source = y.source
  rotate_left
  · have g2 : decide (x.source = y.source) = false := by simp [q2]
    have Q := hid q2; clear q2
    go_enter Try.func30, Try.ntmps30
    go_wp2_with fail
    refine (laws_eqMesh _ _ x.mesh y.mesh _ _ _ (TMesh.mkAgg (Sl.below W0.out (by (repeat (first | (with_reducible exact Below.refl _ _) | ((with_reducible refine Below.set ?_ ?_ _); rotate_left; (simp <;> omega)) | (with_reducible refine Below.box_ ?_ _) | (with_reducible refine Below.next ?_ (by assumption)))))) (Sl.below W1.out (by (repeat (first | (with_reducible exact Below.refl _ _) | ((with_reducible refine Below.set ?_ ?_ _); rotate_left; (simp <;> omega)) | (with_reducible refine Below.box_ ?_ _) | (with_reducible refine Below.next ?_ (by assumption))))))) (TMesh.mkAgg (Sl.below V0.out (by (repeat (first | (with_reducible exact Below.refl _ _) | ((with_reducible refine Below.set ?_ ?_ _); rotate_left; (simp <;> omega)) | (with_reducible refine Below.box_ ?_ _) | (with_reducible refine Below.next ?_ (by assumption)))))) (Sl.below V1.out (by (repeat (first | (with_reducible exact Below.refl _ _) | ((with_reducible refine Below.set ?_ ?_ _); rotate_left; (simp <;> omega)) | (with_reducible refine Below.box_ ?_ _) | (with_reducible refine Below.next ?_ (by assumption)))))))).mono ?_
    rintro e u0 ⟨rfl, hb0⟩
    obtain ⟨hc0, hf0⟩ := bcell hb0
    have hz0 : w.heap.size < u0.heap.size ∧ w.heap.size + 1 < u0.heap.size := by have := hb0.size; (try simp at this); omega
    obtain ⟨hz0a, hz0b⟩ := hz0
    go_wp2_with fail
    refine (laws_eqRatS _ _ _ _ _ _ x.diffusion y.diffusion _ _ _ (Sl.below W2.out (by (repeat (first | (with_reducible exact Below.refl _ _) | ((with_reducible refine Below.set ?_ ?_ _); rotate_left; (simp <;> omega)) | (with_reducible refine Below.box_ ?_ _) | (with_reducible refine Below.next ?_ (by assumption)))))) (Sl.below V2.out (by (repeat (first | (with_reducible exact Below.refl _ _) | ((with_reducible refine Below.set ?_ ?_ _); rotate_left; (simp <;> omega)) | (with_reducible refine Below.box_ ?_ _) | (with_reducible refine Below.next ?_ (by assumption))))))).mono ?_
    rintro e u1 ⟨rfl, hb1⟩
    obtain ⟨hc1, hf1⟩ := bcell hb1
    have hz1 : w.heap.size < u1.heap.size ∧ w.heap.size + 1 < u1.heap.size := by have := hb1.size; (try simp at this); omega
    obtain ⟨hz1a, hz1b⟩ := hz1
    go_wp2_with fail
    refine (laws_eqRatS _ _ _ _ _ _ x.source y.source _ _ _ (Sl.below W3.out (by (repeat (first | (with_reducible exact Below.refl _ _) | ((with_reducible refine Below.set ?_ ?_ _); rotate_left; (simp <;> omega)) | (with_reducible refine Below.box_ ?_ _) | (with_reducible refine Below.next ?_ (by assumption)))))) (Sl.below V3.out (by (repeat (first | (with_reducible exact Below.refl _ _) | ((with_reducible refine Below.set ?_ ?_ _); rotate_left; (simp <;> omega)) | (with_reducible refine Below.box_ ?_ _) | (with_reducible refine Below.next ?_ (by assumption))))))).mono ?_
    rintro e u2 ⟨rfl, hb2⟩
    obtain ⟨hc2, hf2⟩ := bcell hb2
    have hz2 : w.heap.size < u2.heap.size ∧ w.heap.size + 1 < u2.heap.size := by have := hb2.size; (try simp at this); omega
    obtain ⟨hz2a, hz2b⟩ := hz2
    go_wp2
    go_ret
    exact ⟨ret_bool (by have : x ≠ y := fun e => Q.out (by rw [e]); simp [this]), by (repeat (first | (with_reducible exact Below.refl _ _) | ((with_reducible refine Below.set ?_ ?_ _); rotate_left; (simp <;> omega)) | (with_reducible refine Below.box_ ?_ _) | (with_reducible refine Below.next ?_ (by assumption))))⟩
  have g2 : decide (x.source = y.source) = true := by simp [q2]
  have Q2 := hid q2; clear q2
  go_enter Try.func30, Try.ntmps30
  go_wp2_with fail
  refine (laws_eqMesh _ _ x.mesh y.mesh _ _ _ (TMesh.mkAgg (Sl.below W0.out (by (repeat (first | (with_reducible exact Below.refl _ _) | ((with_reducible refine Below.set ?_ ?_ _); rotate_left; (simp <;> omega)) | (with_reducible refine Below.box_ ?_ _) | (with_reducible refine Below.next ?_ (by assumption)))))) (Sl.below W1.out (by (repeat (first | (with_reducible exact Below.refl _ _) | ((with_reducible refine Below.set ?_ ?_ _); rotate_left; (simp <;> omega)) | (with_reducible refine Below.box_ ?_ _) | (with_reducible refine Below.next ?_ (by assumption))))))) (TMesh.mkAgg (Sl.below V0.out (by (repeat (first | (with_reducible exact Below.refl _ _) | ((with_reducible refine Below.set ?_ ?_ _); rotate_left; (simp <;> omega)) | (with_reducible refine Below.box_ ?_ _) | (with_reducible refine Below.next ?_ (by assumption)))))) (Sl.below V1.out (by (repeat (first | (with_reducible exact Below.refl _ _) | ((with_reducible refine Below.set ?_ ?_ _); rotate_left; (simp <;> omega)) | (with_reducible refine Below.box_ ?_ _) | (with_reducible refine Below.next ?_ (by assumption)))))))).mono ?_
  rintro e u0 ⟨rfl, hb0⟩
  obtain ⟨hc0, hf0⟩ := bcell hb0
  have hz0 : w.heap.size < u0.heap.size ∧ w.heap.size + 1 < u0.heap.size := by have := hb0.size; (try simp at this); omega
  obtain ⟨hz0a, hz0b⟩ := hz0
  go_wp2_with fail
  refine (laws_eqRatS _ _ _ _ _ _ x.diffusion y.diffusion _ _ _ (Sl.below W2.out (by (repeat (first | (with_reducible exact Below.refl _ _) | ((with_reducible refine Below.set ?_ ?_ _); rotate_left; (simp <;> omega)) | (with_reducible refine Below.box_ ?_ _) | (with_reducible refine Below.next ?_ (by assumption)))))) (Sl.below V2.out (by (repeat (first | (with_reducible exact Below.refl _ _) | ((with_reducible refine Below.set ?_ ?_ _); rotate_left; (simp <;> omega)) | (with_reducible refine Below.box_ ?_ _) | (with_reducible refine Below.next ?_ (by assumption))))))).mono ?_
  rintro e u1 ⟨rfl, hb1⟩
  obtain ⟨hc1, hf1⟩ := bcell hb1
  have hz1 : w.heap.size < u1.heap.size ∧ w.heap.size + 1 < u1.heap.size := by have := hb1.size; (try simp at this); omega
  obtain ⟨hz1a, hz1b⟩ := hz1
  go_wp2_with fail
  refine (laws_eqRatS _ _ _ _ _ _ x.source y.source _ _ _ (Sl.below W3.out (by (repeat (first | (with_reducible exact Below.refl _ _) | ((with_reducible refine Below.set ?_ ?_ _); rotate_left; (simp <;> omega)) | (with_reducible refine Below.box_ ?_ _) | (with_reducible refine Below.next ?_ (by assumption)))))) (Sl.below V3.out (by (repeat (first | (with_reducible exact Below.refl _ _) | ((with_reducible refine Below.set ?_ ?_ _); rotate_left; (simp <;> omega)) | (with_reducible refine Below.box_ ?_ _) | (with_reducible refine Below.next ?_ (by assumption))))))).mono ?_
  rintro e u2 ⟨rfl, hb2⟩
  obtain ⟨hc2, hf2⟩ := bcell hb2
  have hz2 : w.heap.size < u2.heap.size ∧ w.heap.size + 1 < u2.heap.size := by have := hb2.size; (try simp at this); omega
  obtain ⟨hz2a, hz2b⟩ := hz2
  go_wp2
  go_ret
  have heq : x = y := by cases x; cases y; simp only [TProblem.mk.injEq]; exact ⟨Q0.out, Q1.out, Q2.out⟩
  exact ⟨ret_bool (by simp [heq]), by (repeat (first | (with_reducible exact Below.refl _ _) | ((with_reducible refine Below.set ?_ ?_ _); rotate_left; (simp <;> omega)) | (with_reducible refine Below.box_ ?_ _) | (with_reducible refine Below.next ?_ (by assumption))))⟩
set_option maxHeartbeats 1000000 in
theorem laws_eqReport (v v' : Value) (x y : TReport) (bs bs' : List Nat) (w : World) (hx : Agg w v x bs) (hy : Agg w v' y bs') : Calls Try.prog 12 #[v, v'] w (Gives w (.bool (decide (x = y)))) := by
  obtain ⟨A2, nA2, cA2, sA2, A3, nA3, cA3, sA3, A5, nA5, cA5, sA5, A6, nA6, cA6, sA6, rfl, rfl, w0, w2, w3, w5, w6⟩ := TReport.agg hx
  obtain ⟨B2, nB2, cB2, sB2, B3, nB3, cB3, sB3, B5, nB5, cB5, sB5, B6, nB6, cB6, sB6, rfl, rfl, v0, v2, v3, v5, v6⟩ := TReport.agg hy
  have W0 := hid w0; have V0 := hid v0
  have W2 := hid w2; have V2 := hid v2
  have W3 := hid w3; have V3 := hid v3
  have W5 := hid w5; have V5 := hid v5
  have W6 := hid w6; have V6 := hid v6
  clear hx hy w0 v0 w2 v2 w3 v3 w5 v5 w6 v6
  by_cases q0 : x.triangles = y.triangles
  rotate_left
  · have g0 : (x.triangles != y.triangles) = true := by simp [q0]
    have Q := hid q0; clear q0
    go_enter Try.func12, Try.ntmps12
    go_wp2
    go_ret
    exact ⟨ret_bool (by have : x ≠ y := fun e => Q.out (by rw [e]); simp [this]), by (repeat (first | (with_reducible exact Below.refl _ _) | ((with_reducible refine Below.set ?_ ?_ _); rotate_left; (simp <;> omega)) | (with_reducible refine Below.box_ ?_ _) | (with_reducible refine Below.next ?_ (by assumption))))⟩
  have g0 : (x.triangles != y.triangles) = false := by simp [q0]
  have Q0 := hid q0; clear q0
  by_cases q1 : x.energy = y.energy
  rotate_left
  · have g1 : decide (x.energy = y.energy) = false := by simp [q1]
    have Q := hid q1; clear q1
    go_enter Try.func12, Try.ntmps12
    go_wp2_with fail
    refine (laws_eqRat _ _ x.energy y.energy _ _ _ (TRat.mkAgg (Sl.below W2.out (by (repeat (first | (with_reducible exact Below.refl _ _) | ((with_reducible refine Below.set ?_ ?_ _); rotate_left; (simp <;> omega)) | (with_reducible refine Below.box_ ?_ _) | (with_reducible refine Below.next ?_ (by assumption)))))) (Sl.below W3.out (by (repeat (first | (with_reducible exact Below.refl _ _) | ((with_reducible refine Below.set ?_ ?_ _); rotate_left; (simp <;> omega)) | (with_reducible refine Below.box_ ?_ _) | (with_reducible refine Below.next ?_ (by assumption))))))) (TRat.mkAgg (Sl.below V2.out (by (repeat (first | (with_reducible exact Below.refl _ _) | ((with_reducible refine Below.set ?_ ?_ _); rotate_left; (simp <;> omega)) | (with_reducible refine Below.box_ ?_ _) | (with_reducible refine Below.next ?_ (by assumption)))))) (Sl.below V3.out (by (repeat (first | (with_reducible exact Below.refl _ _) | ((with_reducible refine Below.set ?_ ?_ _); rotate_left; (simp <;> omega)) | (with_reducible refine Below.box_ ?_ _) | (with_reducible refine Below.next ?_ (by assumption)))))))).mono ?_
    rintro e u1 ⟨rfl, hb1⟩
    obtain ⟨hc1, hf1⟩ := bcell hb1
    have hz1 : w.heap.size < u1.heap.size ∧ w.heap.size + 1 < u1.heap.size := by have := hb1.size; (try simp at this); omega
    obtain ⟨hz1a, hz1b⟩ := hz1
    go_wp2
    go_ret
    exact ⟨ret_bool (by have : x ≠ y := fun e => Q.out (by rw [e]); simp [this]), by (repeat (first | (with_reducible exact Below.refl _ _) | ((with_reducible refine Below.set ?_ ?_ _); rotate_left; (simp <;> omega)) | (with_reducible refine Below.box_ ?_ _) | (with_reducible refine Below.next ?_ (by assumption))))⟩
  have g1 : decide (x.energy = y.energy) = true := by simp [q1]
  have Q1 := hid q1; clear q1
  by_cases q2 : x.bound = y.bound
  rotate_left
  · have g2 : decide (x.bound = y.bound) = false := by simp [q2]
    have Q := hid q2; clear q2
    go_enter Try.func12, Try.ntmps12
    go_wp2_with fail
    refine (laws_eqRat _ _ x.energy y.energy _ _ _ (TRat.mkAgg (Sl.below W2.out (by (repeat (first | (with_reducible exact Below.refl _ _) | ((with_reducible refine Below.set ?_ ?_ _); rotate_left; (simp <;> omega)) | (with_reducible refine Below.box_ ?_ _) | (with_reducible refine Below.next ?_ (by assumption)))))) (Sl.below W3.out (by (repeat (first | (with_reducible exact Below.refl _ _) | ((with_reducible refine Below.set ?_ ?_ _); rotate_left; (simp <;> omega)) | (with_reducible refine Below.box_ ?_ _) | (with_reducible refine Below.next ?_ (by assumption))))))) (TRat.mkAgg (Sl.below V2.out (by (repeat (first | (with_reducible exact Below.refl _ _) | ((with_reducible refine Below.set ?_ ?_ _); rotate_left; (simp <;> omega)) | (with_reducible refine Below.box_ ?_ _) | (with_reducible refine Below.next ?_ (by assumption)))))) (Sl.below V3.out (by (repeat (first | (with_reducible exact Below.refl _ _) | ((with_reducible refine Below.set ?_ ?_ _); rotate_left; (simp <;> omega)) | (with_reducible refine Below.box_ ?_ _) | (with_reducible refine Below.next ?_ (by assumption)))))))).mono ?_
    rintro e u1 ⟨rfl, hb1⟩
    obtain ⟨hc1, hf1⟩ := bcell hb1
    have hz1 : w.heap.size < u1.heap.size ∧ w.heap.size + 1 < u1.heap.size := by have := hb1.size; (try simp at this); omega
    obtain ⟨hz1a, hz1b⟩ := hz1
    go_wp2_with fail
    refine (laws_eqRat _ _ x.bound y.bound _ _ _ (TRat.mkAgg (Sl.below W5.out (by (repeat (first | (with_reducible exact Below.refl _ _) | ((with_reducible refine Below.set ?_ ?_ _); rotate_left; (simp <;> omega)) | (with_reducible refine Below.box_ ?_ _) | (with_reducible refine Below.next ?_ (by assumption)))))) (Sl.below W6.out (by (repeat (first | (with_reducible exact Below.refl _ _) | ((with_reducible refine Below.set ?_ ?_ _); rotate_left; (simp <;> omega)) | (with_reducible refine Below.box_ ?_ _) | (with_reducible refine Below.next ?_ (by assumption))))))) (TRat.mkAgg (Sl.below V5.out (by (repeat (first | (with_reducible exact Below.refl _ _) | ((with_reducible refine Below.set ?_ ?_ _); rotate_left; (simp <;> omega)) | (with_reducible refine Below.box_ ?_ _) | (with_reducible refine Below.next ?_ (by assumption)))))) (Sl.below V6.out (by (repeat (first | (with_reducible exact Below.refl _ _) | ((with_reducible refine Below.set ?_ ?_ _); rotate_left; (simp <;> omega)) | (with_reducible refine Below.box_ ?_ _) | (with_reducible refine Below.next ?_ (by assumption)))))))).mono ?_
    rintro e u2 ⟨rfl, hb2⟩
    obtain ⟨hc2, hf2⟩ := bcell hb2
    have hz2 : w.heap.size < u2.heap.size ∧ w.heap.size + 1 < u2.heap.size := by have := hb2.size; (try simp at this); omega
    obtain ⟨hz2a, hz2b⟩ := hz2
    go_wp2
    go_ret
    exact ⟨ret_bool (by have : x ≠ y := fun e => Q.out (by rw [e]); simp [this]), by (repeat (first | (with_reducible exact Below.refl _ _) | ((with_reducible refine Below.set ?_ ?_ _); rotate_left; (simp <;> omega)) | (with_reducible refine Below.box_ ?_ _) | (with_reducible refine Below.next ?_ (by assumption))))⟩
  have g2 : decide (x.bound = y.bound) = true := by simp [q2]
  have Q2 := hid q2; clear q2
  go_enter Try.func12, Try.ntmps12
  go_wp2_with fail
  refine (laws_eqRat _ _ x.energy y.energy _ _ _ (TRat.mkAgg (Sl.below W2.out (by (repeat (first | (with_reducible exact Below.refl _ _) | ((with_reducible refine Below.set ?_ ?_ _); rotate_left; (simp <;> omega)) | (with_reducible refine Below.box_ ?_ _) | (with_reducible refine Below.next ?_ (by assumption)))))) (Sl.below W3.out (by (repeat (first | (with_reducible exact Below.refl _ _) | ((with_reducible refine Below.set ?_ ?_ _); rotate_left; (simp <;> omega)) | (with_reducible refine Below.box_ ?_ _) | (with_reducible refine Below.next ?_ (by assumption))))))) (TRat.mkAgg (Sl.below V2.out (by (repeat (first | (with_reducible exact Below.refl _ _) | ((with_reducible refine Below.set ?_ ?_ _); rotate_left; (simp <;> omega)) | (with_reducible refine Below.box_ ?_ _) | (with_reducible refine Below.next ?_ (by assumption)))))) (Sl.below V3.out (by (repeat (first | (with_reducible exact Below.refl _ _) | ((with_reducible refine Below.set ?_ ?_ _); rotate_left; (simp <;> omega)) | (with_reducible refine Below.box_ ?_ _) | (with_reducible refine Below.next ?_ (by assumption)))))))).mono ?_
  rintro e u1 ⟨rfl, hb1⟩
  obtain ⟨hc1, hf1⟩ := bcell hb1
  have hz1 : w.heap.size < u1.heap.size ∧ w.heap.size + 1 < u1.heap.size := by have := hb1.size; (try simp at this); omega
  obtain ⟨hz1a, hz1b⟩ := hz1
  go_wp2_with fail
  refine (laws_eqRat _ _ x.bound y.bound _ _ _ (TRat.mkAgg (Sl.below W5.out (by (repeat (first | (with_reducible exact Below.refl _ _) | ((with_reducible refine Below.set ?_ ?_ _); rotate_left; (simp <;> omega)) | (with_reducible refine Below.box_ ?_ _) | (with_reducible refine Below.next ?_ (by assumption)))))) (Sl.below W6.out (by (repeat (first | (with_reducible exact Below.refl _ _) | ((with_reducible refine Below.set ?_ ?_ _); rotate_left; (simp <;> omega)) | (with_reducible refine Below.box_ ?_ _) | (with_reducible refine Below.next ?_ (by assumption))))))) (TRat.mkAgg (Sl.below V5.out (by (repeat (first | (with_reducible exact Below.refl _ _) | ((with_reducible refine Below.set ?_ ?_ _); rotate_left; (simp <;> omega)) | (with_reducible refine Below.box_ ?_ _) | (with_reducible refine Below.next ?_ (by assumption)))))) (Sl.below V6.out (by (repeat (first | (with_reducible exact Below.refl _ _) | ((with_reducible refine Below.set ?_ ?_ _); rotate_left; (simp <;> omega)) | (with_reducible refine Below.box_ ?_ _) | (with_reducible refine Below.next ?_ (by assumption)))))))).mono ?_
  rintro e u2 ⟨rfl, hb2⟩
  obtain ⟨hc2, hf2⟩ := bcell hb2
  have hz2 : w.heap.size < u2.heap.size ∧ w.heap.size + 1 < u2.heap.size := by have := hb2.size; (try simp at this); omega
  obtain ⟨hz2a, hz2b⟩ := hz2
  go_wp2
  go_ret
  have heq : x = y := by cases x; cases y; simp only [TReport.mk.injEq]; exact ⟨Q0.out, Q1.out, Q2.out⟩
  exact ⟨ret_bool (by simp [heq]), by (repeat (first | (with_reducible exact Below.refl _ _) | ((with_reducible refine Below.set ?_ ?_ _); rotate_left; (simp <;> omega)) | (with_reducible refine Below.box_ ?_ _) | (with_reducible refine Below.next ?_ (by assumption))))⟩
set_option maxHeartbeats 1000000 in
theorem laws_eqReportS (A A' : Option Addr) (n n' c c' : Nat) (xs ys : List TReport) (bs bs' : List Nat) (w : World) (hx : Sl w A n c xs bs) (hy : Sl w A' n' c' ys bs') :
    Calls Try.prog 31 #[.slice A n c, .slice A' n' c'] w (Gives w (.bool (decide (xs = ys)))) := by
  have hn : n ≤ maxLen := Nat.le_trans hx.2.1 hx.2.2.1
  have hn' : n' ≤ maxLen := Nat.le_trans hy.2.1 hy.2.2.1
  have HL := hid hx.1; have HL' := hid hy.1
  unfold maxLen at hn hn'
  have HX := hid hx; have HY := hid hy
  clear hx hy
  by_cases hne : n = n'
  · subst hne
    go_enter Try.func31, Try.ntmps31
    go_wp2
    go_loopw [5] (fun i wr => ∃ k : Nat, k ≤ n ∧ i = .int .i64 k ∧ Hid (xs.take k = ys.take k) ∧ Below w.heap.size w wr) (fun i wr => n - (intOf i).toNat)
    case atStart => exact ⟨0, Nat.zero_le _, rfl, rfl, Below.refl _ _⟩
    case round =>
      obtain ⟨k, hk, rfl, ht, hb⟩ := hrel
      by_cases hlt : k < n
      · obtain ⟨be, offe, x, A2, nA2, cA2, sA2, A3, nA3, cA3, sA3, A5, nA5, cA5, sA5, A6, nA6, cA6, sA6, rfl, hble, hxke, ee0, ee1, ee2, ee3, ee4, ee5, ee6, e0, e2, e3, e5, e6, hmeme⟩ := TReport.elem (Sl.below HX.out hb) hlt
        obtain ⟨bf, offf, y, B2, nB2, cB2, sB2, B3, nB3, cB3, sB3, B5, nB5, cB5, sB5, B6, nB6, cB6, sB6, rfl, hblf, hxkf, ef0, ef1, ef2, ef3, ef4, ef5, ef6, f0, f2, f3, f5, f6, hmemf⟩ := TReport.elem (Sl.below HY.out hb) hlt
        have HXk := hid hxke; have HYk := hid hxkf
        have W0 := hid e0; have V0 := hid f0
        have W2 := hid e2; have V2 := hid f2
        have W3 := hid e3; have V3 := hid f3
        have W5 := hid e5; have V5 := hid f5
        have W6 := hid e6; have V6 := hid f6
        clear hxke hxkf e0 f0 e2 f2 e3 f3 e5 f5 e6 f6 hmeme hmemf
        have hi1 : (0 : Int) ≤ k := by omega
        have hi2 : (k : Int) < n := by omega
        go_wp2
        refine wp_region_walk (by kernel_rfl) (by kernel_rfl) (by kernel_rfl) ?_
        iterate 8
          apply walkM_eq
          case h =>
            intro yq zq wq hC hd
            obtain ⟨hcq, hfq⟩ := bcell hC
            simp at hd
            refine ⟨by go_simp; done, ?_⟩
            go_simp
            exact rfl
        refine walkM_call (MP.eq (.bool (decide (x = y)))) ?_ ?_
        · intro yq zq wq hC hd
          obtain ⟨hcq, hfq⟩ := bcell hC
          simp at hd
          refine ⟨by go_simp; done, ?_⟩
          apply Exists.intro
          apply Exists.intro
          constructor
          · go_simp
            exact ⟨rfl, rfl⟩
          · refine (laws_eqReport _ _ x y _ _ _ (TReport.mkAgg W0.out (Sl.below W2.out hC) (Sl.below W3.out hC) (Sl.below W5.out hC) (Sl.below W6.out hC)) (TReport.mkAgg V0.out (Sl.below V2.out hC) (Sl.below V3.out hC) (Sl.below V5.out hC) (Sl.below V6.out hC))).mono ?_
            rintro e w' ⟨rfl, hb⟩
            exact ⟨_, rfl, hb, [], ⟨rfl, rfl⟩, fun b hb => by simp at hb⟩
        apply walkM_eq
        case h =>
          intro yq zq wq hC hd
          obtain ⟨hcq, hfq⟩ := bcell hC
          simp at hd
          refine ⟨by go_simp; done, ?_⟩
          go_simp
          exact rfl
        intro yq zq wq hC hd hdis0
        have hdis := hid hdis0
        clear hdis0
        simp at hd
        by_cases hxy : x = y
        · have hbb : decide (x = y) = true := by simp [hxy]
          go_simp
          have r1 : k + 1 ≤ n := by omega
          have r3 := hid (take_eq_step HXk.out HYk.out ht.out hxy)
          go_wp2
          first
          | exact ⟨⟨k + 1, r1, num_succ k, r3, Below.next hb hC⟩, meas_succ hlt⟩
          | exact ⟨by (repeat apply Exists.intro); exact ⟨⟨k + 1, r1, num_succ k, r3, Below.next hb hC⟩, rfl⟩, meas_succ hlt⟩
        · have hbb : decide (x = y) = false := by simp [hxy]
          go_simp
          go_wp2
          go_ret
          exact ⟨ret_bool (by simp [ne_at HXk.out HYk.out hxy]), Below.next hb hC⟩
      · go_wp2
        go_ret
        exact ⟨ret_bool (by simp [take_all_eq HL.out HL'.out (by omega) ht.out]), hb⟩
  · have hb : ((n : Int) != n') = true := by simp; omega
    go_enter Try.func31, Try.ntmps31
    go_wp2
    go_ret
    exact ⟨ret_bool (by
      have : xs ≠ ys := fun e => hne (by rw [← HL.out, ← HL'.out, e])
      simp [this]), Below.refl _ _⟩
set_option maxHeartbeats 1000000 in
theorem laws_eqState (v v' : Value) (x y : TState) (bs bs' : List Nat) (w : World) (hx : Agg w v x bs) (hy : Agg w v' y bs') : Calls Try.prog 17 #[v, v'] w (Gives w (.bool (decide (x = y)))) := by
  obtain ⟨A0, nA0, cA0, sA0, A1, nA1, cA1, sA1, A2, nA2, cA2, sA2, A3, nA3, cA3, sA3, A5, nA5, cA5, sA5, A6, nA6, cA6, sA6, A7, nA7, cA7, sA7, rfl, rfl, w0, w1, w2, w3, w5, w6, w7⟩ := TState.agg hx
  obtain ⟨B0, nB0, cB0, sB0, B1, nB1, cB1, sB1, B2, nB2, cB2, sB2, B3, nB3, cB3, sB3, B5, nB5, cB5, sB5, B6, nB6, cB6, sB6, B7, nB7, cB7, sB7, rfl, rfl, v0, v1, v2, v3, v5, v6, v7⟩ := TState.agg hy
  have W0 := hid w0; have V0 := hid v0
  have W1 := hid w1; have V1 := hid v1
  have W2 := hid w2; have V2 := hid v2
  have W3 := hid w3; have V3 := hid v3
  have W5 := hid w5; have V5 := hid v5
  have W6 := hid w6; have V6 := hid v6
  have W7 := hid w7; have V7 := hid v7
  clear hx hy w0 v0 w1 v1 w2 v2 w3 v3 w5 v5 w6 v6 w7 v7
  by_cases q0 : x.problem = y.problem
  rotate_left
  · have g0 : decide (x.problem = y.problem) = false := by simp [q0]
    have Q := hid q0; clear q0
    go_enter Try.func17, Try.ntmps17
    go_wp2_with fail
    refine (laws_eqProblem _ _ x.problem y.problem _ _ _ (TProblem.mkAgg (Sl.below W0.out (by (repeat (first | (with_reducible exact Below.refl _ _) | ((with_reducible refine Below.set ?_ ?_ _); rotate_left; (simp <;> omega)) | (with_reducible refine Below.box_ ?_ _) | (with_reducible refine Below.next ?_ (by assumption)))))) (Sl.below W1.out (by (repeat (first | (with_reducible exact Below.refl _ _) | ((with_reducible refine Below.set ?_ ?_ _); rotate_left; (simp <;> omega)) | (with_reducible refine Below.box_ ?_ _) | (with_reducible refine Below.next ?_ (by assumption)))))) (Sl.below W2.out (by (repeat (first | (with_reducible exact Below.refl _ _) | ((with_reducible refine Below.set ?_ ?_ _); rotate_left; (simp <;> omega)) | (with_reducible refine Below.box_ ?_ _) | (with_reducible refine Below.next ?_ (by assumption)))))) (Sl.below W3.out (by (repeat (first | (with_reducible exact Below.refl _ _) | ((with_reducible refine Below.set ?_ ?_ _); rotate_left; (simp <;> omega)) | (with_reducible refine Below.box_ ?_ _) | (with_reducible refine Below.next ?_ (by assumption))))))) (TProblem.mkAgg (Sl.below V0.out (by (repeat (first | (with_reducible exact Below.refl _ _) | ((with_reducible refine Below.set ?_ ?_ _); rotate_left; (simp <;> omega)) | (with_reducible refine Below.box_ ?_ _) | (with_reducible refine Below.next ?_ (by assumption)))))) (Sl.below V1.out (by (repeat (first | (with_reducible exact Below.refl _ _) | ((with_reducible refine Below.set ?_ ?_ _); rotate_left; (simp <;> omega)) | (with_reducible refine Below.box_ ?_ _) | (with_reducible refine Below.next ?_ (by assumption)))))) (Sl.below V2.out (by (repeat (first | (with_reducible exact Below.refl _ _) | ((with_reducible refine Below.set ?_ ?_ _); rotate_left; (simp <;> omega)) | (with_reducible refine Below.box_ ?_ _) | (with_reducible refine Below.next ?_ (by assumption)))))) (Sl.below V3.out (by (repeat (first | (with_reducible exact Below.refl _ _) | ((with_reducible refine Below.set ?_ ?_ _); rotate_left; (simp <;> omega)) | (with_reducible refine Below.box_ ?_ _) | (with_reducible refine Below.next ?_ (by assumption)))))))).mono ?_
    rintro e u0 ⟨rfl, hb0⟩
    obtain ⟨hc0, hf0⟩ := bcell hb0
    have hz0 : w.heap.size < u0.heap.size ∧ w.heap.size + 1 < u0.heap.size := by have := hb0.size; (try simp at this); omega
    obtain ⟨hz0a, hz0b⟩ := hz0
    go_wp2
    go_ret
    exact ⟨ret_bool (by have : x ≠ y := fun e => Q.out (by rw [e]); simp [this]), by (repeat (first | (with_reducible exact Below.refl _ _) | ((with_reducible refine Below.set ?_ ?_ _); rotate_left; (simp <;> omega)) | (with_reducible refine Below.box_ ?_ _) | (with_reducible refine Below.next ?_ (by assumption))))⟩
  have g0 : decide (x.problem = y.problem) = true := by simp [q0]
  have Q0 := hid q0; clear q0
  by_cases q1 : x.part = y.part
  rotate_left
  · have g1 : decide (x.part = y.part) = false := by simp [q1]
    have Q := hid q1; clear q1
    go_enter Try.func17, Try.ntmps17
    go_wp2_with fail
    refine (laws_eqProblem _ _ x.problem y.problem _ _ _ (TProblem.mkAgg (Sl.below W0.out (by (repeat (first | (with_reducible exact Below.refl _ _) | ((with_reducible refine Below.set ?_ ?_ _); rotate_left; (simp <;> omega)) | (with_reducible refine Below.box_ ?_ _) | (with_reducible refine Below.next ?_ (by assumption)))))) (Sl.below W1.out (by (repeat (first | (with_reducible exact Below.refl _ _) | ((with_reducible refine Below.set ?_ ?_ _); rotate_left; (simp <;> omega)) | (with_reducible refine Below.box_ ?_ _) | (with_reducible refine Below.next ?_ (by assumption)))))) (Sl.below W2.out (by (repeat (first | (with_reducible exact Below.refl _ _) | ((with_reducible refine Below.set ?_ ?_ _); rotate_left; (simp <;> omega)) | (with_reducible refine Below.box_ ?_ _) | (with_reducible refine Below.next ?_ (by assumption)))))) (Sl.below W3.out (by (repeat (first | (with_reducible exact Below.refl _ _) | ((with_reducible refine Below.set ?_ ?_ _); rotate_left; (simp <;> omega)) | (with_reducible refine Below.box_ ?_ _) | (with_reducible refine Below.next ?_ (by assumption))))))) (TProblem.mkAgg (Sl.below V0.out (by (repeat (first | (with_reducible exact Below.refl _ _) | ((with_reducible refine Below.set ?_ ?_ _); rotate_left; (simp <;> omega)) | (with_reducible refine Below.box_ ?_ _) | (with_reducible refine Below.next ?_ (by assumption)))))) (Sl.below V1.out (by (repeat (first | (with_reducible exact Below.refl _ _) | ((with_reducible refine Below.set ?_ ?_ _); rotate_left; (simp <;> omega)) | (with_reducible refine Below.box_ ?_ _) | (with_reducible refine Below.next ?_ (by assumption)))))) (Sl.below V2.out (by (repeat (first | (with_reducible exact Below.refl _ _) | ((with_reducible refine Below.set ?_ ?_ _); rotate_left; (simp <;> omega)) | (with_reducible refine Below.box_ ?_ _) | (with_reducible refine Below.next ?_ (by assumption)))))) (Sl.below V3.out (by (repeat (first | (with_reducible exact Below.refl _ _) | ((with_reducible refine Below.set ?_ ?_ _); rotate_left; (simp <;> omega)) | (with_reducible refine Below.box_ ?_ _) | (with_reducible refine Below.next ?_ (by assumption)))))))).mono ?_
    rintro e u0 ⟨rfl, hb0⟩
    obtain ⟨hc0, hf0⟩ := bcell hb0
    have hz0 : w.heap.size < u0.heap.size ∧ w.heap.size + 1 < u0.heap.size := by have := hb0.size; (try simp at this); omega
    obtain ⟨hz0a, hz0b⟩ := hz0
    go_wp2_with fail
    refine (laws_eqRat _ _ x.part y.part _ _ _ (TRat.mkAgg (Sl.below W5.out (by (repeat (first | (with_reducible exact Below.refl _ _) | ((with_reducible refine Below.set ?_ ?_ _); rotate_left; (simp <;> omega)) | (with_reducible refine Below.box_ ?_ _) | (with_reducible refine Below.next ?_ (by assumption)))))) (Sl.below W6.out (by (repeat (first | (with_reducible exact Below.refl _ _) | ((with_reducible refine Below.set ?_ ?_ _); rotate_left; (simp <;> omega)) | (with_reducible refine Below.box_ ?_ _) | (with_reducible refine Below.next ?_ (by assumption))))))) (TRat.mkAgg (Sl.below V5.out (by (repeat (first | (with_reducible exact Below.refl _ _) | ((with_reducible refine Below.set ?_ ?_ _); rotate_left; (simp <;> omega)) | (with_reducible refine Below.box_ ?_ _) | (with_reducible refine Below.next ?_ (by assumption)))))) (Sl.below V6.out (by (repeat (first | (with_reducible exact Below.refl _ _) | ((with_reducible refine Below.set ?_ ?_ _); rotate_left; (simp <;> omega)) | (with_reducible refine Below.box_ ?_ _) | (with_reducible refine Below.next ?_ (by assumption)))))))).mono ?_
    rintro e u1 ⟨rfl, hb1⟩
    obtain ⟨hc1, hf1⟩ := bcell hb1
    have hz1 : w.heap.size < u1.heap.size ∧ w.heap.size + 1 < u1.heap.size := by have := hb1.size; (try simp at this); omega
    obtain ⟨hz1a, hz1b⟩ := hz1
    go_wp2
    go_ret
    exact ⟨ret_bool (by have : x ≠ y := fun e => Q.out (by rw [e]); simp [this]), by (repeat (first | (with_reducible exact Below.refl _ _) | ((with_reducible refine Below.set ?_ ?_ _); rotate_left; (simp <;> omega)) | (with_reducible refine Below.box_ ?_ _) | (with_reducible refine Below.next ?_ (by assumption))))⟩
  have g1 : decide (x.part = y.part) = true := by simp [q1]
  have Q1 := hid q1; clear q1
  by_cases q2 : x.reports = y.reports
  rotate_left
  · have g2 : decide (x.reports = y.reports) = false := by simp [q2]
    have Q := hid q2; clear q2
    go_enter Try.func17, Try.ntmps17
    go_wp2_with fail
    refine (laws_eqProblem _ _ x.problem y.problem _ _ _ (TProblem.mkAgg (Sl.below W0.out (by (repeat (first | (with_reducible exact Below.refl _ _) | ((with_reducible refine Below.set ?_ ?_ _); rotate_left; (simp <;> omega)) | (with_reducible refine Below.box_ ?_ _) | (with_reducible refine Below.next ?_ (by assumption)))))) (Sl.below W1.out (by (repeat (first | (with_reducible exact Below.refl _ _) | ((with_reducible refine Below.set ?_ ?_ _); rotate_left; (simp <;> omega)) | (with_reducible refine Below.box_ ?_ _) | (with_reducible refine Below.next ?_ (by assumption)))))) (Sl.below W2.out (by (repeat (first | (with_reducible exact Below.refl _ _) | ((with_reducible refine Below.set ?_ ?_ _); rotate_left; (simp <;> omega)) | (with_reducible refine Below.box_ ?_ _) | (with_reducible refine Below.next ?_ (by assumption)))))) (Sl.below W3.out (by (repeat (first | (with_reducible exact Below.refl _ _) | ((with_reducible refine Below.set ?_ ?_ _); rotate_left; (simp <;> omega)) | (with_reducible refine Below.box_ ?_ _) | (with_reducible refine Below.next ?_ (by assumption))))))) (TProblem.mkAgg (Sl.below V0.out (by (repeat (first | (with_reducible exact Below.refl _ _) | ((with_reducible refine Below.set ?_ ?_ _); rotate_left; (simp <;> omega)) | (with_reducible refine Below.box_ ?_ _) | (with_reducible refine Below.next ?_ (by assumption)))))) (Sl.below V1.out (by (repeat (first | (with_reducible exact Below.refl _ _) | ((with_reducible refine Below.set ?_ ?_ _); rotate_left; (simp <;> omega)) | (with_reducible refine Below.box_ ?_ _) | (with_reducible refine Below.next ?_ (by assumption)))))) (Sl.below V2.out (by (repeat (first | (with_reducible exact Below.refl _ _) | ((with_reducible refine Below.set ?_ ?_ _); rotate_left; (simp <;> omega)) | (with_reducible refine Below.box_ ?_ _) | (with_reducible refine Below.next ?_ (by assumption)))))) (Sl.below V3.out (by (repeat (first | (with_reducible exact Below.refl _ _) | ((with_reducible refine Below.set ?_ ?_ _); rotate_left; (simp <;> omega)) | (with_reducible refine Below.box_ ?_ _) | (with_reducible refine Below.next ?_ (by assumption)))))))).mono ?_
    rintro e u0 ⟨rfl, hb0⟩
    obtain ⟨hc0, hf0⟩ := bcell hb0
    have hz0 : w.heap.size < u0.heap.size ∧ w.heap.size + 1 < u0.heap.size := by have := hb0.size; (try simp at this); omega
    obtain ⟨hz0a, hz0b⟩ := hz0
    go_wp2_with fail
    refine (laws_eqRat _ _ x.part y.part _ _ _ (TRat.mkAgg (Sl.below W5.out (by (repeat (first | (with_reducible exact Below.refl _ _) | ((with_reducible refine Below.set ?_ ?_ _); rotate_left; (simp <;> omega)) | (with_reducible refine Below.box_ ?_ _) | (with_reducible refine Below.next ?_ (by assumption)))))) (Sl.below W6.out (by (repeat (first | (with_reducible exact Below.refl _ _) | ((with_reducible refine Below.set ?_ ?_ _); rotate_left; (simp <;> omega)) | (with_reducible refine Below.box_ ?_ _) | (with_reducible refine Below.next ?_ (by assumption))))))) (TRat.mkAgg (Sl.below V5.out (by (repeat (first | (with_reducible exact Below.refl _ _) | ((with_reducible refine Below.set ?_ ?_ _); rotate_left; (simp <;> omega)) | (with_reducible refine Below.box_ ?_ _) | (with_reducible refine Below.next ?_ (by assumption)))))) (Sl.below V6.out (by (repeat (first | (with_reducible exact Below.refl _ _) | ((with_reducible refine Below.set ?_ ?_ _); rotate_left; (simp <;> omega)) | (with_reducible refine Below.box_ ?_ _) | (with_reducible refine Below.next ?_ (by assumption)))))))).mono ?_
    rintro e u1 ⟨rfl, hb1⟩
    obtain ⟨hc1, hf1⟩ := bcell hb1
    have hz1 : w.heap.size < u1.heap.size ∧ w.heap.size + 1 < u1.heap.size := by have := hb1.size; (try simp at this); omega
    obtain ⟨hz1a, hz1b⟩ := hz1
    go_wp2_with fail
    refine (laws_eqReportS _ _ _ _ _ _ x.reports y.reports _ _ _ (Sl.below W7.out (by (repeat (first | (with_reducible exact Below.refl _ _) | ((with_reducible refine Below.set ?_ ?_ _); rotate_left; (simp <;> omega)) | (with_reducible refine Below.box_ ?_ _) | (with_reducible refine Below.next ?_ (by assumption)))))) (Sl.below V7.out (by (repeat (first | (with_reducible exact Below.refl _ _) | ((with_reducible refine Below.set ?_ ?_ _); rotate_left; (simp <;> omega)) | (with_reducible refine Below.box_ ?_ _) | (with_reducible refine Below.next ?_ (by assumption))))))).mono ?_
    rintro e u2 ⟨rfl, hb2⟩
    obtain ⟨hc2, hf2⟩ := bcell hb2
    have hz2 : w.heap.size < u2.heap.size ∧ w.heap.size + 1 < u2.heap.size := by have := hb2.size; (try simp at this); omega
    obtain ⟨hz2a, hz2b⟩ := hz2
    go_wp2
    go_ret
    exact ⟨ret_bool (by have : x ≠ y := fun e => Q.out (by rw [e]); simp [this]), by (repeat (first | (with_reducible exact Below.refl _ _) | ((with_reducible refine Below.set ?_ ?_ _); rotate_left; (simp <;> omega)) | (with_reducible refine Below.box_ ?_ _) | (with_reducible refine Below.next ?_ (by assumption))))⟩
  have g2 : decide (x.reports = y.reports) = true := by simp [q2]
  have Q2 := hid q2; clear q2
  go_enter Try.func17, Try.ntmps17
  go_wp2_with fail
  refine (laws_eqProblem _ _ x.problem y.problem _ _ _ (TProblem.mkAgg (Sl.below W0.out (by (repeat (first | (with_reducible exact Below.refl _ _) | ((with_reducible refine Below.set ?_ ?_ _); rotate_left; (simp <;> omega)) | (with_reducible refine Below.box_ ?_ _) | (with_reducible refine Below.next ?_ (by assumption)))))) (Sl.below W1.out (by (repeat (first | (with_reducible exact Below.refl _ _) | ((with_reducible refine Below.set ?_ ?_ _); rotate_left; (simp <;> omega)) | (with_reducible refine Below.box_ ?_ _) | (with_reducible refine Below.next ?_ (by assumption)))))) (Sl.below W2.out (by (repeat (first | (with_reducible exact Below.refl _ _) | ((with_reducible refine Below.set ?_ ?_ _); rotate_left; (simp <;> omega)) | (with_reducible refine Below.box_ ?_ _) | (with_reducible refine Below.next ?_ (by assumption)))))) (Sl.below W3.out (by (repeat (first | (with_reducible exact Below.refl _ _) | ((with_reducible refine Below.set ?_ ?_ _); rotate_left; (simp <;> omega)) | (with_reducible refine Below.box_ ?_ _) | (with_reducible refine Below.next ?_ (by assumption))))))) (TProblem.mkAgg (Sl.below V0.out (by (repeat (first | (with_reducible exact Below.refl _ _) | ((with_reducible refine Below.set ?_ ?_ _); rotate_left; (simp <;> omega)) | (with_reducible refine Below.box_ ?_ _) | (with_reducible refine Below.next ?_ (by assumption)))))) (Sl.below V1.out (by (repeat (first | (with_reducible exact Below.refl _ _) | ((with_reducible refine Below.set ?_ ?_ _); rotate_left; (simp <;> omega)) | (with_reducible refine Below.box_ ?_ _) | (with_reducible refine Below.next ?_ (by assumption)))))) (Sl.below V2.out (by (repeat (first | (with_reducible exact Below.refl _ _) | ((with_reducible refine Below.set ?_ ?_ _); rotate_left; (simp <;> omega)) | (with_reducible refine Below.box_ ?_ _) | (with_reducible refine Below.next ?_ (by assumption)))))) (Sl.below V3.out (by (repeat (first | (with_reducible exact Below.refl _ _) | ((with_reducible refine Below.set ?_ ?_ _); rotate_left; (simp <;> omega)) | (with_reducible refine Below.box_ ?_ _) | (with_reducible refine Below.next ?_ (by assumption)))))))).mono ?_
  rintro e u0 ⟨rfl, hb0⟩
  obtain ⟨hc0, hf0⟩ := bcell hb0
  have hz0 : w.heap.size < u0.heap.size ∧ w.heap.size + 1 < u0.heap.size := by have := hb0.size; (try simp at this); omega
  obtain ⟨hz0a, hz0b⟩ := hz0
  go_wp2_with fail
  refine (laws_eqRat _ _ x.part y.part _ _ _ (TRat.mkAgg (Sl.below W5.out (by (repeat (first | (with_reducible exact Below.refl _ _) | ((with_reducible refine Below.set ?_ ?_ _); rotate_left; (simp <;> omega)) | (with_reducible refine Below.box_ ?_ _) | (with_reducible refine Below.next ?_ (by assumption)))))) (Sl.below W6.out (by (repeat (first | (with_reducible exact Below.refl _ _) | ((with_reducible refine Below.set ?_ ?_ _); rotate_left; (simp <;> omega)) | (with_reducible refine Below.box_ ?_ _) | (with_reducible refine Below.next ?_ (by assumption))))))) (TRat.mkAgg (Sl.below V5.out (by (repeat (first | (with_reducible exact Below.refl _ _) | ((with_reducible refine Below.set ?_ ?_ _); rotate_left; (simp <;> omega)) | (with_reducible refine Below.box_ ?_ _) | (with_reducible refine Below.next ?_ (by assumption)))))) (Sl.below V6.out (by (repeat (first | (with_reducible exact Below.refl _ _) | ((with_reducible refine Below.set ?_ ?_ _); rotate_left; (simp <;> omega)) | (with_reducible refine Below.box_ ?_ _) | (with_reducible refine Below.next ?_ (by assumption)))))))).mono ?_
  rintro e u1 ⟨rfl, hb1⟩
  obtain ⟨hc1, hf1⟩ := bcell hb1
  have hz1 : w.heap.size < u1.heap.size ∧ w.heap.size + 1 < u1.heap.size := by have := hb1.size; (try simp at this); omega
  obtain ⟨hz1a, hz1b⟩ := hz1
  go_wp2_with fail
  refine (laws_eqReportS _ _ _ _ _ _ x.reports y.reports _ _ _ (Sl.below W7.out (by (repeat (first | (with_reducible exact Below.refl _ _) | ((with_reducible refine Below.set ?_ ?_ _); rotate_left; (simp <;> omega)) | (with_reducible refine Below.box_ ?_ _) | (with_reducible refine Below.next ?_ (by assumption)))))) (Sl.below V7.out (by (repeat (first | (with_reducible exact Below.refl _ _) | ((with_reducible refine Below.set ?_ ?_ _); rotate_left; (simp <;> omega)) | (with_reducible refine Below.box_ ?_ _) | (with_reducible refine Below.next ?_ (by assumption))))))).mono ?_
  rintro e u2 ⟨rfl, hb2⟩
  obtain ⟨hc2, hf2⟩ := bcell hb2
  have hz2 : w.heap.size < u2.heap.size ∧ w.heap.size + 1 < u2.heap.size := by have := hb2.size; (try simp at this); omega
  obtain ⟨hz2a, hz2b⟩ := hz2
  go_wp2
  go_ret
  have heq : x = y := by cases x; cases y; simp only [TState.mk.injEq]; exact ⟨Q0.out, Q1.out, Q2.out⟩
  exact ⟨ret_bool (by simp [heq]), by (repeat (first | (with_reducible exact Below.refl _ _) | ((with_reducible refine Below.set ?_ ?_ _); rotate_left; (simp <;> omega)) | (with_reducible refine Below.box_ ?_ _) | (with_reducible refine Below.next ?_ (by assumption))))⟩
end Go.Proofs.Ytmhcfdipnofohaa.X
