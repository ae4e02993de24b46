/- Comparisons that are chains: RatEqual, SamePoint, SameReport, of the program and of the reference. Written by gen_law.py. -/
import Derived.Test.YtmhcfdipnofohaaRows
import Derived.Test.YtmhcfdipnofohaaXEq
import Derived.Test.YtmhcfdipnofohaaXRegion
import Derived.WalkLawsBesides
import Derived.ProofKit
namespace Go.Proofs.Ytmhcfdipnofohaa.X
open Go.RowKit Go.XB
attribute [local go_sem] fillBy opAt deps depOf Region.wanted yielded
attribute [local simp] deps depOf MP.eq Facts
theorem ext_TRat {x y : TRat} (a : x.num.neg = y.num.neg) (b : x.num.mag = y.num.mag) (c : x.den = y.den) : x = y := by
  obtain ⟨⟨_, _⟩, _⟩ := x; obtain ⟨⟨_, _⟩, _⟩ := y; simp only at a b c; rw [a, b, c]
theorem ext_TPoint {x y : TPoint} (a : x.x = y.x) (b : x.y = y.y) : x = y := by
  obtain ⟨_, _⟩ := x; obtain ⟨_, _⟩ := y; simp only at a b; rw [a, b]
theorem ext_TReport {x y : TReport} (a : x.triangles = y.triangles) (b : x.energy = y.energy) (c : x.bound = y.bound) : x = y := by
  obtain ⟨_, _, _⟩ := x; obtain ⟨_, _, _⟩ := y; simp only at a b c; rw [a, b, c]
set_option maxHeartbeats 1000000 in
theorem impl_RatEqual (v v' : Value) (x y : TRat) (bs bs' : List Nat) (w : World) (hx : Agg w v x bs) (hy : Agg w v' y bs') : Calls Try.prog 21 #[v, v'] w (Gives w (.bool (decide (x = y)))) := by
  obtain ⟨A1, nA1, cA1, sA1, A2, nA2, cA2, sA2, rfl, rfl, w1, w2⟩ := TRat.agg hx
  obtain ⟨B1, nB1, cB1, sB1, B2, nB2, cB2, sB2, rfl, rfl, v1, v2⟩ := TRat.agg hy
  have W1 := hid w1; have V1 := hid v1
  have W2 := hid w2; have V2 := hid v2
  clear hx hy w1 v1 w2 v2
  by_cases q0 : x.num.neg = y.num.neg
  rotate_left
  · have g0 : (x.num.neg == y.num.neg) = false := by simp [q0]
    have Q := hid q0; clear q0
    go_enter Try.func21, Try.ntmps21
    go_wp2
    go_ret
    exact ⟨ret_bool (by have : x ≠ y := fun e => Q.out (by rw [e]); simp [this]), by (repeat (first | (with_reducible exact Below.refl _ _) | ((with_reducible refine Below.set ?_ ?_ _); rotate_left; (simp <;> omega)) | (with_reducible refine Below.box_ ?_ _) | (with_reducible refine Below.next ?_ (by assumption))))⟩
  have g0 : (x.num.neg == y.num.neg) = true := by simp [q0]
  have Q0 := hid q0; clear q0
  by_cases q1 : x.num.mag = y.num.mag
  rotate_left
  · have g1 : decide (x.num.mag = y.num.mag) = false := by simp [q1]
    have Q := hid q1; clear q1
    go_enter Try.func21, Try.ntmps21
    go_wp2_with fail
    refine (slices_Equal_int_int _ _ _ _ _ _ x.num.mag y.num.mag _ _ _ (Sl.below W1.out (by (repeat (first | (with_reducible exact Below.refl _ _) | ((with_reducible refine Below.set ?_ ?_ _); rotate_left; (simp <;> omega)) | (with_reducible refine Below.box_ ?_ _) | (with_reducible refine Below.next ?_ (by assumption)))))) (Sl.below V1.out (by (repeat (first | (with_reducible exact Below.refl _ _) | ((with_reducible refine Below.set ?_ ?_ _); rotate_left; (simp <;> omega)) | (with_reducible refine Below.box_ ?_ _) | (with_reducible refine Below.next ?_ (by assumption))))))).mono ?_
    rintro e u1 ⟨rfl, hb1⟩
    obtain ⟨hc1, hf1⟩ := bcell hb1
    have hz1 : w.heap.size < u1.heap.size ∧ w.heap.size + 1 < u1.heap.size := by have := hb1.size; (try simp at this); omega
    obtain ⟨hz1a, hz1b⟩ := hz1
    go_wp2
    go_ret
    exact ⟨ret_bool (by have : x ≠ y := fun e => Q.out (by rw [e]); simp [this]), by (repeat (first | (with_reducible exact Below.refl _ _) | ((with_reducible refine Below.set ?_ ?_ _); rotate_left; (simp <;> omega)) | (with_reducible refine Below.box_ ?_ _) | (with_reducible refine Below.next ?_ (by assumption))))⟩
  have g1 : decide (x.num.mag = y.num.mag) = true := by simp [q1]
  have Q1 := hid q1; clear q1
  by_cases q2 : x.den = y.den
  rotate_left
  · have g2 : decide (x.den = y.den) = false := by simp [q2]
    have Q := hid q2; clear q2
    go_enter Try.func21, Try.ntmps21
    go_wp2_with fail
    refine (slices_Equal_int_int _ _ _ _ _ _ x.num.mag y.num.mag _ _ _ (Sl.below W1.out (by (repeat (first | (with_reducible exact Below.refl _ _) | ((with_reducible refine Below.set ?_ ?_ _); rotate_left; (simp <;> omega)) | (with_reducible refine Below.box_ ?_ _) | (with_reducible refine Below.next ?_ (by assumption)))))) (Sl.below V1.out (by (repeat (first | (with_reducible exact Below.refl _ _) | ((with_reducible refine Below.set ?_ ?_ _); rotate_left; (simp <;> omega)) | (with_reducible refine Below.box_ ?_ _) | (with_reducible refine Below.next ?_ (by assumption))))))).mono ?_
    rintro e u1 ⟨rfl, hb1⟩
    obtain ⟨hc1, hf1⟩ := bcell hb1
    have hz1 : w.heap.size < u1.heap.size ∧ w.heap.size + 1 < u1.heap.size := by have := hb1.size; (try simp at this); omega
    obtain ⟨hz1a, hz1b⟩ := hz1
    go_wp2_with fail
    refine (slices_Equal_int_int _ _ _ _ _ _ x.den y.den _ _ _ (Sl.below W2.out (by (repeat (first | (with_reducible exact Below.refl _ _) | ((with_reducible refine Below.set ?_ ?_ _); rotate_left; (simp <;> omega)) | (with_reducible refine Below.box_ ?_ _) | (with_reducible refine Below.next ?_ (by assumption)))))) (Sl.below V2.out (by (repeat (first | (with_reducible exact Below.refl _ _) | ((with_reducible refine Below.set ?_ ?_ _); rotate_left; (simp <;> omega)) | (with_reducible refine Below.box_ ?_ _) | (with_reducible refine Below.next ?_ (by assumption))))))).mono ?_
    rintro e u2 ⟨rfl, hb2⟩
    obtain ⟨hc2, hf2⟩ := bcell hb2
    have hz2 : w.heap.size < u2.heap.size ∧ w.heap.size + 1 < u2.heap.size := by have := hb2.size; (try simp at this); omega
    obtain ⟨hz2a, hz2b⟩ := hz2
    go_wp2
    go_ret
    exact ⟨ret_bool (by have : x ≠ y := fun e => Q.out (by rw [e]); simp [this]), by (repeat (first | (with_reducible exact Below.refl _ _) | ((with_reducible refine Below.set ?_ ?_ _); rotate_left; (simp <;> omega)) | (with_reducible refine Below.box_ ?_ _) | (with_reducible refine Below.next ?_ (by assumption))))⟩
  have g2 : decide (x.den = y.den) = true := by simp [q2]
  have Q2 := hid q2; clear q2
  go_enter Try.func21, Try.ntmps21
  go_wp2_with fail
  refine (slices_Equal_int_int _ _ _ _ _ _ x.num.mag y.num.mag _ _ _ (Sl.below W1.out (by (repeat (first | (with_reducible exact Below.refl _ _) | ((with_reducible refine Below.set ?_ ?_ _); rotate_left; (simp <;> omega)) | (with_reducible refine Below.box_ ?_ _) | (with_reducible refine Below.next ?_ (by assumption)))))) (Sl.below V1.out (by (repeat (first | (with_reducible exact Below.refl _ _) | ((with_reducible refine Below.set ?_ ?_ _); rotate_left; (simp <;> omega)) | (with_reducible refine Below.box_ ?_ _) | (with_reducible refine Below.next ?_ (by assumption))))))).mono ?_
  rintro e u1 ⟨rfl, hb1⟩
  obtain ⟨hc1, hf1⟩ := bcell hb1
  have hz1 : w.heap.size < u1.heap.size ∧ w.heap.size + 1 < u1.heap.size := by have := hb1.size; (try simp at this); omega
  obtain ⟨hz1a, hz1b⟩ := hz1
  go_wp2_with fail
  refine (slices_Equal_int_int _ _ _ _ _ _ x.den y.den _ _ _ (Sl.below W2.out (by (repeat (first | (with_reducible exact Below.refl _ _) | ((with_reducible refine Below.set ?_ ?_ _); rotate_left; (simp <;> omega)) | (with_reducible refine Below.box_ ?_ _) | (with_reducible refine Below.next ?_ (by assumption)))))) (Sl.below V2.out (by (repeat (first | (with_reducible exact Below.refl _ _) | ((with_reducible refine Below.set ?_ ?_ _); rotate_left; (simp <;> omega)) | (with_reducible refine Below.box_ ?_ _) | (with_reducible refine Below.next ?_ (by assumption))))))).mono ?_
  rintro e u2 ⟨rfl, hb2⟩
  obtain ⟨hc2, hf2⟩ := bcell hb2
  have hz2 : w.heap.size < u2.heap.size ∧ w.heap.size + 1 < u2.heap.size := by have := hb2.size; (try simp at this); omega
  obtain ⟨hz2a, hz2b⟩ := hz2
  go_wp2
  go_ret
  have heq : x = y := @ext_TRat x y Q0.out Q1.out Q2.out
  exact ⟨ret_bool (by simp [heq]), by (repeat (first | (with_reducible exact Below.refl _ _) | ((with_reducible refine Below.set ?_ ?_ _); rotate_left; (simp <;> omega)) | (with_reducible refine Below.box_ ?_ _) | (with_reducible refine Below.next ?_ (by assumption))))⟩
set_option maxHeartbeats 1000000 in
theorem impl_SamePoint (v v' : Value) (x y : TPoint) (bs bs' : List Nat) (w : World) (hx : Agg w v x bs) (hy : Agg w v' y bs') : Calls Try.prog 56 #[v, v'] w (Gives w (.bool (decide (x = y)))) := by
  obtain ⟨A1, nA1, cA1, sA1, A2, nA2, cA2, sA2, A4, nA4, cA4, sA4, A5, nA5, cA5, sA5, rfl, rfl, w1, w2, w4, w5⟩ := TPoint.agg hx
  obtain ⟨B1, nB1, cB1, sB1, B2, nB2, cB2, sB2, B4, nB4, cB4, sB4, B5, nB5, cB5, sB5, rfl, rfl, v1, v2, v4, v5⟩ := TPoint.agg hy
  have W1 := hid w1; have V1 := hid v1
  have W2 := hid w2; have V2 := hid v2
  have W4 := hid w4; have V4 := hid v4
  have W5 := hid w5; have V5 := hid v5
  clear hx hy w1 v1 w2 v2 w4 v4 w5 v5
  by_cases q0 : x.x = y.x
  rotate_left
  · have g0 : decide (x.x = y.x) = false := by simp [q0]
    have Q := hid q0; clear q0
    go_enter Try.func56, Try.ntmps56
    go_wp2_with fail
    refine (impl_RatEqual _ _ x.x y.x _ _ _ (TRat.mkAgg (Sl.below W1.out (by (repeat (first | (with_reducible exact Below.refl _ _) | ((with_reducible refine Below.set ?_ ?_ _); rotate_left; (simp <;> omega)) | (with_reducible refine Below.box_ ?_ _) | (with_reducible refine Below.next ?_ (by assumption)))))) (Sl.below W2.out (by (repeat (first | (with_reducible exact Below.refl _ _) | ((with_reducible refine Below.set ?_ ?_ _); rotate_left; (simp <;> omega)) | (with_reducible refine Below.box_ ?_ _) | (with_reducible refine Below.next ?_ (by assumption))))))) (TRat.mkAgg (Sl.below V1.out (by (repeat (first | (with_reducible exact Below.refl _ _) | ((with_reducible refine Below.set ?_ ?_ _); rotate_left; (simp <;> omega)) | (with_reducible refine Below.box_ ?_ _) | (with_reducible refine Below.next ?_ (by assumption)))))) (Sl.below V2.out (by (repeat (first | (with_reducible exact Below.refl _ _) | ((with_reducible refine Below.set ?_ ?_ _); rotate_left; (simp <;> omega)) | (with_reducible refine Below.box_ ?_ _) | (with_reducible refine Below.next ?_ (by assumption)))))))).mono ?_
    rintro e u0 ⟨rfl, hb0⟩
    obtain ⟨hc0, hf0⟩ := bcell hb0
    have hz0 : w.heap.size < u0.heap.size ∧ w.heap.size + 1 < u0.heap.size := by have := hb0.size; (try simp at this); omega
    obtain ⟨hz0a, hz0b⟩ := hz0
    go_wp2
    go_ret
    exact ⟨ret_bool (by have : x ≠ y := fun e => Q.out (by rw [e]); simp [this]), by (repeat (first | (with_reducible exact Below.refl _ _) | ((with_reducible refine Below.set ?_ ?_ _); rotate_left; (simp <;> omega)) | (with_reducible refine Below.box_ ?_ _) | (with_reducible refine Below.next ?_ (by assumption))))⟩
  have g0 : decide (x.x = y.x) = true := by simp [q0]
  have Q0 := hid q0; clear q0
  by_cases q1 : x.y = y.y
  rotate_left
  · have g1 : decide (x.y = y.y) = false := by simp [q1]
    have Q := hid q1; clear q1
    go_enter Try.func56, Try.ntmps56
    go_wp2_with fail
    refine (impl_RatEqual _ _ x.x y.x _ _ _ (TRat.mkAgg (Sl.below W1.out (by (repeat (first | (with_reducible exact Below.refl _ _) | ((with_reducible refine Below.set ?_ ?_ _); rotate_left; (simp <;> omega)) | (with_reducible refine Below.box_ ?_ _) | (with_reducible refine Below.next ?_ (by assumption)))))) (Sl.below W2.out (by (repeat (first | (with_reducible exact Below.refl _ _) | ((with_reducible refine Below.set ?_ ?_ _); rotate_left; (simp <;> omega)) | (with_reducible refine Below.box_ ?_ _) | (with_reducible refine Below.next ?_ (by assumption))))))) (TRat.mkAgg (Sl.below V1.out (by (repeat (first | (with_reducible exact Below.refl _ _) | ((with_reducible refine Below.set ?_ ?_ _); rotate_left; (simp <;> omega)) | (with_reducible refine Below.box_ ?_ _) | (with_reducible refine Below.next ?_ (by assumption)))))) (Sl.below V2.out (by (repeat (first | (with_reducible exact Below.refl _ _) | ((with_reducible refine Below.set ?_ ?_ _); rotate_left; (simp <;> omega)) | (with_reducible refine Below.box_ ?_ _) | (with_reducible refine Below.next ?_ (by assumption)))))))).mono ?_
    rintro e u0 ⟨rfl, hb0⟩
    obtain ⟨hc0, hf0⟩ := bcell hb0
    have hz0 : w.heap.size < u0.heap.size ∧ w.heap.size + 1 < u0.heap.size := by have := hb0.size; (try simp at this); omega
    obtain ⟨hz0a, hz0b⟩ := hz0
    go_wp2_with fail
    refine (impl_RatEqual _ _ x.y y.y _ _ _ (TRat.mkAgg (Sl.below W4.out (by (repeat (first | (with_reducible exact Below.refl _ _) | ((with_reducible refine Below.set ?_ ?_ _); rotate_left; (simp <;> omega)) | (with_reducible refine Below.box_ ?_ _) | (with_reducible refine Below.next ?_ (by assumption)))))) (Sl.below W5.out (by (repeat (first | (with_reducible exact Below.refl _ _) | ((with_reducible refine Below.set ?_ ?_ _); rotate_left; (simp <;> omega)) | (with_reducible refine Below.box_ ?_ _) | (with_reducible refine Below.next ?_ (by assumption))))))) (TRat.mkAgg (Sl.below V4.out (by (repeat (first | (with_reducible exact Below.refl _ _) | ((with_reducible refine Below.set ?_ ?_ _); rotate_left; (simp <;> omega)) | (with_reducible refine Below.box_ ?_ _) | (with_reducible refine Below.next ?_ (by assumption)))))) (Sl.below V5.out (by (repeat (first | (with_reducible exact Below.refl _ _) | ((with_reducible refine Below.set ?_ ?_ _); rotate_left; (simp <;> omega)) | (with_reducible refine Below.box_ ?_ _) | (with_reducible refine Below.next ?_ (by assumption)))))))).mono ?_
    rintro e u1 ⟨rfl, hb1⟩
    obtain ⟨hc1, hf1⟩ := bcell hb1
    have hz1 : w.heap.size < u1.heap.size ∧ w.heap.size + 1 < u1.heap.size := by have := hb1.size; (try simp at this); omega
    obtain ⟨hz1a, hz1b⟩ := hz1
    go_wp2
    go_ret
    exact ⟨ret_bool (by have : x ≠ y := fun e => Q.out (by rw [e]); simp [this]), by (repeat (first | (with_reducible exact Below.refl _ _) | ((with_reducible refine Below.set ?_ ?_ _); rotate_left; (simp <;> omega)) | (with_reducible refine Below.box_ ?_ _) | (with_reducible refine Below.next ?_ (by assumption))))⟩
  have g1 : decide (x.y = y.y) = true := by simp [q1]
  have Q1 := hid q1; clear q1
  go_enter Try.func56, Try.ntmps56
  go_wp2_with fail
  refine (impl_RatEqual _ _ x.x y.x _ _ _ (TRat.mkAgg (Sl.below W1.out (by (repeat (first | (with_reducible exact Below.refl _ _) | ((with_reducible refine Below.set ?_ ?_ _); rotate_left; (simp <;> omega)) | (with_reducible refine Below.box_ ?_ _) | (with_reducible refine Below.next ?_ (by assumption)))))) (Sl.below W2.out (by (repeat (first | (with_reducible exact Below.refl _ _) | ((with_reducible refine Below.set ?_ ?_ _); rotate_left; (simp <;> omega)) | (with_reducible refine Below.box_ ?_ _) | (with_reducible refine Below.next ?_ (by assumption))))))) (TRat.mkAgg (Sl.below V1.out (by (repeat (first | (with_reducible exact Below.refl _ _) | ((with_reducible refine Below.set ?_ ?_ _); rotate_left; (simp <;> omega)) | (with_reducible refine Below.box_ ?_ _) | (with_reducible refine Below.next ?_ (by assumption)))))) (Sl.below V2.out (by (repeat (first | (with_reducible exact Below.refl _ _) | ((with_reducible refine Below.set ?_ ?_ _); rotate_left; (simp <;> omega)) | (with_reducible refine Below.box_ ?_ _) | (with_reducible refine Below.next ?_ (by assumption)))))))).mono ?_
  rintro e u0 ⟨rfl, hb0⟩
  obtain ⟨hc0, hf0⟩ := bcell hb0
  have hz0 : w.heap.size < u0.heap.size ∧ w.heap.size + 1 < u0.heap.size := by have := hb0.size; (try simp at this); omega
  obtain ⟨hz0a, hz0b⟩ := hz0
  go_wp2_with fail
  refine (impl_RatEqual _ _ x.y y.y _ _ _ (TRat.mkAgg (Sl.below W4.out (by (repeat (first | (with_reducible exact Below.refl _ _) | ((with_reducible refine Below.set ?_ ?_ _); rotate_left; (simp <;> omega)) | (with_reducible refine Below.box_ ?_ _) | (with_reducible refine Below.next ?_ (by assumption)))))) (Sl.below W5.out (by (repeat (first | (with_reducible exact Below.refl _ _) | ((with_reducible refine Below.set ?_ ?_ _); rotate_left; (simp <;> omega)) | (with_reducible refine Below.box_ ?_ _) | (with_reducible refine Below.next ?_ (by assumption))))))) (TRat.mkAgg (Sl.below V4.out (by (repeat (first | (with_reducible exact Below.refl _ _) | ((with_reducible refine Below.set ?_ ?_ _); rotate_left; (simp <;> omega)) | (with_reducible refine Below.box_ ?_ _) | (with_reducible refine Below.next ?_ (by assumption)))))) (Sl.below V5.out (by (repeat (first | (with_reducible exact Below.refl _ _) | ((with_reducible refine Below.set ?_ ?_ _); rotate_left; (simp <;> omega)) | (with_reducible refine Below.box_ ?_ _) | (with_reducible refine Below.next ?_ (by assumption)))))))).mono ?_
  rintro e u1 ⟨rfl, hb1⟩
  obtain ⟨hc1, hf1⟩ := bcell hb1
  have hz1 : w.heap.size < u1.heap.size ∧ w.heap.size + 1 < u1.heap.size := by have := hb1.size; (try simp at this); omega
  obtain ⟨hz1a, hz1b⟩ := hz1
  go_wp2
  go_ret
  have heq : x = y := @ext_TPoint x y Q0.out Q1.out
  exact ⟨ret_bool (by simp [heq]), by (repeat (first | (with_reducible exact Below.refl _ _) | ((with_reducible refine Below.set ?_ ?_ _); rotate_left; (simp <;> omega)) | (with_reducible refine Below.box_ ?_ _) | (with_reducible refine Below.next ?_ (by assumption))))⟩
set_option maxHeartbeats 1000000 in
theorem impl_SameReport (v v' : Value) (x y : TReport) (bs bs' : List Nat) (w : World) (hx : Agg w v x bs) (hy : Agg w v' y bs') : Calls Try.prog 11 #[v, v'] w (Gives w (.bool (decide (x = y)))) := by
  obtain ⟨A2, nA2, cA2, sA2, A3, nA3, cA3, sA3, A5, nA5, cA5, sA5, A6, nA6, cA6, sA6, rfl, rfl, w0, w2, w3, w5, w6⟩ := TReport.agg hx
  obtain ⟨B2, nB2, cB2, sB2, B3, nB3, cB3, sB3, B5, nB5, cB5, sB5, B6, nB6, cB6, sB6, rfl, rfl, v0, v2, v3, v5, v6⟩ := TReport.agg hy
  have W0 := hid w0; have V0 := hid v0
  have W2 := hid w2; have V2 := hid v2
  have W3 := hid w3; have V3 := hid v3
  have W5 := hid w5; have V5 := hid v5
  have W6 := hid w6; have V6 := hid v6
  clear hx hy w0 v0 w2 v2 w3 v3 w5 v5 w6 v6
  by_cases q0 : x.triangles = y.triangles
  rotate_left
  · have g0 : (x.triangles == y.triangles) = false := by simp [q0]
    have Q := hid q0; clear q0
    go_enter Try.func11, Try.ntmps11
    go_wp2
    go_ret
    exact ⟨ret_bool (by have : x ≠ y := fun e => Q.out (by rw [e]); simp [this]), by (repeat (first | (with_reducible exact Below.refl _ _) | ((with_reducible refine Below.set ?_ ?_ _); rotate_left; (simp <;> omega)) | (with_reducible refine Below.box_ ?_ _) | (with_reducible refine Below.next ?_ (by assumption))))⟩
  have g0 : (x.triangles == y.triangles) = true := by simp [q0]
  have Q0 := hid q0; clear q0
  by_cases q1 : x.energy = y.energy
  rotate_left
  · have g1 : decide (x.energy = y.energy) = false := by simp [q1]
    have Q := hid q1; clear q1
    go_enter Try.func11, Try.ntmps11
    go_wp2_with fail
    refine (impl_RatEqual _ _ x.energy y.energy _ _ _ (TRat.mkAgg (Sl.below W2.out (by (repeat (first | (with_reducible exact Below.refl _ _) | ((with_reducible refine Below.set ?_ ?_ _); rotate_left; (simp <;> omega)) | (with_reducible refine Below.box_ ?_ _) | (with_reducible refine Below.next ?_ (by assumption)))))) (Sl.below W3.out (by (repeat (first | (with_reducible exact Below.refl _ _) | ((with_reducible refine Below.set ?_ ?_ _); rotate_left; (simp <;> omega)) | (with_reducible refine Below.box_ ?_ _) | (with_reducible refine Below.next ?_ (by assumption))))))) (TRat.mkAgg (Sl.below V2.out (by (repeat (first | (with_reducible exact Below.refl _ _) | ((with_reducible refine Below.set ?_ ?_ _); rotate_left; (simp <;> omega)) | (with_reducible refine Below.box_ ?_ _) | (with_reducible refine Below.next ?_ (by assumption)))))) (Sl.below V3.out (by (repeat (first | (with_reducible exact Below.refl _ _) | ((with_reducible refine Below.set ?_ ?_ _); rotate_left; (simp <;> omega)) | (with_reducible refine Below.box_ ?_ _) | (with_reducible refine Below.next ?_ (by assumption)))))))).mono ?_
    rintro e u1 ⟨rfl, hb1⟩
    obtain ⟨hc1, hf1⟩ := bcell hb1
    have hz1 : w.heap.size < u1.heap.size ∧ w.heap.size + 1 < u1.heap.size := by have := hb1.size; (try simp at this); omega
    obtain ⟨hz1a, hz1b⟩ := hz1
    go_wp2
    go_ret
    exact ⟨ret_bool (by have : x ≠ y := fun e => Q.out (by rw [e]); simp [this]), by (repeat (first | (with_reducible exact Below.refl _ _) | ((with_reducible refine Below.set ?_ ?_ _); rotate_left; (simp <;> omega)) | (with_reducible refine Below.box_ ?_ _) | (with_reducible refine Below.next ?_ (by assumption))))⟩
  have g1 : decide (x.energy = y.energy) = true := by simp [q1]
  have Q1 := hid q1; clear q1
  by_cases q2 : x.bound = y.bound
  rotate_left
  · have g2 : decide (x.bound = y.bound) = false := by simp [q2]
    have Q := hid q2; clear q2
    go_enter Try.func11, Try.ntmps11
    go_wp2_with fail
    refine (impl_RatEqual _ _ x.energy y.energy _ _ _ (TRat.mkAgg (Sl.below W2.out (by (repeat (first | (with_reducible exact Below.refl _ _) | ((with_reducible refine Below.set ?_ ?_ _); rotate_left; (simp <;> omega)) | (with_reducible refine Below.box_ ?_ _) | (with_reducible refine Below.next ?_ (by assumption)))))) (Sl.below W3.out (by (repeat (first | (with_reducible exact Below.refl _ _) | ((with_reducible refine Below.set ?_ ?_ _); rotate_left; (simp <;> omega)) | (with_reducible refine Below.box_ ?_ _) | (with_reducible refine Below.next ?_ (by assumption))))))) (TRat.mkAgg (Sl.below V2.out (by (repeat (first | (with_reducible exact Below.refl _ _) | ((with_reducible refine Below.set ?_ ?_ _); rotate_left; (simp <;> omega)) | (with_reducible refine Below.box_ ?_ _) | (with_reducible refine Below.next ?_ (by assumption)))))) (Sl.below V3.out (by (repeat (first | (with_reducible exact Below.refl _ _) | ((with_reducible refine Below.set ?_ ?_ _); rotate_left; (simp <;> omega)) | (with_reducible refine Below.box_ ?_ _) | (with_reducible refine Below.next ?_ (by assumption)))))))).mono ?_
    rintro e u1 ⟨rfl, hb1⟩
    obtain ⟨hc1, hf1⟩ := bcell hb1
    have hz1 : w.heap.size < u1.heap.size ∧ w.heap.size + 1 < u1.heap.size := by have := hb1.size; (try simp at this); omega
    obtain ⟨hz1a, hz1b⟩ := hz1
    go_wp2_with fail
    refine (impl_RatEqual _ _ x.bound y.bound _ _ _ (TRat.mkAgg (Sl.below W5.out (by (repeat (first | (with_reducible exact Below.refl _ _) | ((with_reducible refine Below.set ?_ ?_ _); rotate_left; (simp <;> omega)) | (with_reducible refine Below.box_ ?_ _) | (with_reducible refine Below.next ?_ (by assumption)))))) (Sl.below W6.out (by (repeat (first | (with_reducible exact Below.refl _ _) | ((with_reducible refine Below.set ?_ ?_ _); rotate_left; (simp <;> omega)) | (with_reducible refine Below.box_ ?_ _) | (with_reducible refine Below.next ?_ (by assumption))))))) (TRat.mkAgg (Sl.below V5.out (by (repeat (first | (with_reducible exact Below.refl _ _) | ((with_reducible refine Below.set ?_ ?_ _); rotate_left; (simp <;> omega)) | (with_reducible refine Below.box_ ?_ _) | (with_reducible refine Below.next ?_ (by assumption)))))) (Sl.below V6.out (by (repeat (first | (with_reducible exact Below.refl _ _) | ((with_reducible refine Below.set ?_ ?_ _); rotate_left; (simp <;> omega)) | (with_reducible refine Below.box_ ?_ _) | (with_reducible refine Below.next ?_ (by assumption)))))))).mono ?_
    rintro e u2 ⟨rfl, hb2⟩
    obtain ⟨hc2, hf2⟩ := bcell hb2
    have hz2 : w.heap.size < u2.heap.size ∧ w.heap.size + 1 < u2.heap.size := by have := hb2.size; (try simp at this); omega
    obtain ⟨hz2a, hz2b⟩ := hz2
    go_wp2
    go_ret
    exact ⟨ret_bool (by have : x ≠ y := fun e => Q.out (by rw [e]); simp [this]), by (repeat (first | (with_reducible exact Below.refl _ _) | ((with_reducible refine Below.set ?_ ?_ _); rotate_left; (simp <;> omega)) | (with_reducible refine Below.box_ ?_ _) | (with_reducible refine Below.next ?_ (by assumption))))⟩
  have g2 : decide (x.bound = y.bound) = true := by simp [q2]
  have Q2 := hid q2; clear q2
  go_enter Try.func11, Try.ntmps11
  go_wp2_with fail
  refine (impl_RatEqual _ _ x.energy y.energy _ _ _ (TRat.mkAgg (Sl.below W2.out (by (repeat (first | (with_reducible exact Below.refl _ _) | ((with_reducible refine Below.set ?_ ?_ _); rotate_left; (simp <;> omega)) | (with_reducible refine Below.box_ ?_ _) | (with_reducible refine Below.next ?_ (by assumption)))))) (Sl.below W3.out (by (repeat (first | (with_reducible exact Below.refl _ _) | ((with_reducible refine Below.set ?_ ?_ _); rotate_left; (simp <;> omega)) | (with_reducible refine Below.box_ ?_ _) | (with_reducible refine Below.next ?_ (by assumption))))))) (TRat.mkAgg (Sl.below V2.out (by (repeat (first | (with_reducible exact Below.refl _ _) | ((with_reducible refine Below.set ?_ ?_ _); rotate_left; (simp <;> omega)) | (with_reducible refine Below.box_ ?_ _) | (with_reducible refine Below.next ?_ (by assumption)))))) (Sl.below V3.out (by (repeat (first | (with_reducible exact Below.refl _ _) | ((with_reducible refine Below.set ?_ ?_ _); rotate_left; (simp <;> omega)) | (with_reducible refine Below.box_ ?_ _) | (with_reducible refine Below.next ?_ (by assumption)))))))).mono ?_
  rintro e u1 ⟨rfl, hb1⟩
  obtain ⟨hc1, hf1⟩ := bcell hb1
  have hz1 : w.heap.size < u1.heap.size ∧ w.heap.size + 1 < u1.heap.size := by have := hb1.size; (try simp at this); omega
  obtain ⟨hz1a, hz1b⟩ := hz1
  go_wp2_with fail
  refine (impl_RatEqual _ _ x.bound y.bound _ _ _ (TRat.mkAgg (Sl.below W5.out (by (repeat (first | (with_reducible exact Below.refl _ _) | ((with_reducible refine Below.set ?_ ?_ _); rotate_left; (simp <;> omega)) | (with_reducible refine Below.box_ ?_ _) | (with_reducible refine Below.next ?_ (by assumption)))))) (Sl.below W6.out (by (repeat (first | (with_reducible exact Below.refl _ _) | ((with_reducible refine Below.set ?_ ?_ _); rotate_left; (simp <;> omega)) | (with_reducible refine Below.box_ ?_ _) | (with_reducible refine Below.next ?_ (by assumption))))))) (TRat.mkAgg (Sl.below V5.out (by (repeat (first | (with_reducible exact Below.refl _ _) | ((with_reducible refine Below.set ?_ ?_ _); rotate_left; (simp <;> omega)) | (with_reducible refine Below.box_ ?_ _) | (with_reducible refine Below.next ?_ (by assumption)))))) (Sl.below V6.out (by (repeat (first | (with_reducible exact Below.refl _ _) | ((with_reducible refine Below.set ?_ ?_ _); rotate_left; (simp <;> omega)) | (with_reducible refine Below.box_ ?_ _) | (with_reducible refine Below.next ?_ (by assumption)))))))).mono ?_
  rintro e u2 ⟨rfl, hb2⟩
  obtain ⟨hc2, hf2⟩ := bcell hb2
  have hz2 : w.heap.size < u2.heap.size ∧ w.heap.size + 1 < u2.heap.size := by have := hb2.size; (try simp at this); omega
  obtain ⟨hz2a, hz2b⟩ := hz2
  go_wp2
  go_ret
  have heq : x = y := @ext_TReport x y Q0.out Q1.out Q2.out
  exact ⟨ret_bool (by simp [heq]), by (repeat (first | (with_reducible exact Below.refl _ _) | ((with_reducible refine Below.set ?_ ?_ _); rotate_left; (simp <;> omega)) | (with_reducible refine Below.box_ ?_ _) | (with_reducible refine Below.next ?_ (by assumption))))⟩
set_option maxHeartbeats 1000000 in
theorem spec_RatEqual (v v' : Value) (x y : TRat) (bs bs' : List Nat) (w : World) (hx : Agg w v x bs) (hy : Agg w v' y bs') : Calls Try.prog 19 #[v, v'] w (Gives w (.bool (decide (x = y)))) := by
  obtain ⟨A1, nA1, cA1, sA1, A2, nA2, cA2, sA2, rfl, rfl, w1, w2⟩ := TRat.agg hx
  obtain ⟨B1, nB1, cB1, sB1, B2, nB2, cB2, sB2, rfl, rfl, v1, v2⟩ := TRat.agg hy
  have W1 := hid w1; have V1 := hid v1
  have W2 := hid w2; have V2 := hid v2
  clear hx hy w1 v1 w2 v2
  by_cases q0 : x.num.neg = y.num.neg
  rotate_left
  · have g0 : (x.num.neg == y.num.neg) = false := by simp [q0]
    have Q := hid q0; clear q0
    go_enter Try.func19, Try.ntmps19
    go_wp2
    go_ret
    exact ⟨ret_bool (by have : x ≠ y := fun e => Q.out (by rw [e]); simp [this]), by (repeat (first | (with_reducible exact Below.refl _ _) | ((with_reducible refine Below.set ?_ ?_ _); rotate_left; (simp <;> omega)) | (with_reducible refine Below.box_ ?_ _) | (with_reducible refine Below.next ?_ (by assumption))))⟩
  have g0 : (x.num.neg == y.num.neg) = true := by simp [q0]
  have Q0 := hid q0; clear q0
  by_cases q1 : x.num.mag = y.num.mag
  rotate_left
  · have g1 : decide (x.num.mag = y.num.mag) = false := by simp [q1]
    have Q := hid q1; clear q1
    go_enter Try.func19, Try.ntmps19
    go_wp2_with fail
    refine (spec_l04List _ _ _ _ _ _ x.num.mag y.num.mag _ _ _ (Sl.below W1.out (by (repeat (first | (with_reducible exact Below.refl _ _) | ((with_reducible refine Below.set ?_ ?_ _); rotate_left; (simp <;> omega)) | (with_reducible refine Below.box_ ?_ _) | (with_reducible refine Below.next ?_ (by assumption)))))) (Sl.below V1.out (by (repeat (first | (with_reducible exact Below.refl _ _) | ((with_reducible refine Below.set ?_ ?_ _); rotate_left; (simp <;> omega)) | (with_reducible refine Below.box_ ?_ _) | (with_reducible refine Below.next ?_ (by assumption))))))).mono ?_
    rintro e u1 ⟨rfl, hb1⟩
    obtain ⟨hc1, hf1⟩ := bcell hb1
    have hz1 : w.heap.size < u1.heap.size ∧ w.heap.size + 1 < u1.heap.size := by have := hb1.size; (try simp at this); omega
    obtain ⟨hz1a, hz1b⟩ := hz1
    go_wp2
    go_ret
    exact ⟨ret_bool (by have : x ≠ y := fun e => Q.out (by rw [e]); simp [this]), by (repeat (first | (with_reducible exact Below.refl _ _) | ((with_reducible refine Below.set ?_ ?_ _); rotate_left; (simp <;> omega)) | (with_reducible refine Below.box_ ?_ _) | (with_reducible refine Below.next ?_ (by assumption))))⟩
  have g1 : decide (x.num.mag = y.num.mag) = true := by simp [q1]
  have Q1 := hid q1; clear q1
  by_cases q2 : x.den = y.den
  rotate_left
  · have g2 : decide (x.den = y.den) = false := by simp [q2]
    have Q := hid q2; clear q2
    go_enter Try.func19, Try.ntmps19
    go_wp2_with fail
    refine (spec_l04List _ _ _ _ _ _ x.num.mag y.num.mag _ _ _ (Sl.below W1.out (by (repeat (first | (with_reducible exact Below.refl _ _) | ((with_reducible refine Below.set ?_ ?_ _); rotate_left; (simp <;> omega)) | (with_reducible refine Below.box_ ?_ _) | (with_reducible refine Below.next ?_ (by assumption)))))) (Sl.below V1.out (by (repeat (first | (with_reducible exact Below.refl _ _) | ((with_reducible refine Below.set ?_ ?_ _); rotate_left; (simp <;> omega)) | (with_reducible refine Below.box_ ?_ _) | (with_reducible refine Below.next ?_ (by assumption))))))).mono ?_
    rintro e u1 ⟨rfl, hb1⟩
    obtain ⟨hc1, hf1⟩ := bcell hb1
    have hz1 : w.heap.size < u1.heap.size ∧ w.heap.size + 1 < u1.heap.size := by have := hb1.size; (try simp at this); omega
    obtain ⟨hz1a, hz1b⟩ := hz1
    go_wp2_with fail
    refine (spec_l04List _ _ _ _ _ _ x.den y.den _ _ _ (Sl.below W2.out (by (repeat (first | (with_reducible exact Below.refl _ _) | ((with_reducible refine Below.set ?_ ?_ _); rotate_left; (simp <;> omega)) | (with_reducible refine Below.box_ ?_ _) | (with_reducible refine Below.next ?_ (by assumption)))))) (Sl.below V2.out (by (repeat (first | (with_reducible exact Below.refl _ _) | ((with_reducible refine Below.set ?_ ?_ _); rotate_left; (simp <;> omega)) | (with_reducible refine Below.box_ ?_ _) | (with_reducible refine Below.next ?_ (by assumption))))))).mono ?_
    rintro e u2 ⟨rfl, hb2⟩
    obtain ⟨hc2, hf2⟩ := bcell hb2
    have hz2 : w.heap.size < u2.heap.size ∧ w.heap.size + 1 < u2.heap.size := by have := hb2.size; (try simp at this); omega
    obtain ⟨hz2a, hz2b⟩ := hz2
    go_wp2
    go_ret
    exact ⟨ret_bool (by have : x ≠ y := fun e => Q.out (by rw [e]); simp [this]), by (repeat (first | (with_reducible exact Below.refl _ _) | ((with_reducible refine Below.set ?_ ?_ _); rotate_left; (simp <;> omega)) | (with_reducible refine Below.box_ ?_ _) | (with_reducible refine Below.next ?_ (by assumption))))⟩
  have g2 : decide (x.den = y.den) = true := by simp [q2]
  have Q2 := hid q2; clear q2
  go_enter Try.func19, Try.ntmps19
  go_wp2_with fail
  refine (spec_l04List _ _ _ _ _ _ x.num.mag y.num.mag _ _ _ (Sl.below W1.out (by (repeat (first | (with_reducible exact Below.refl _ _) | ((with_reducible refine Below.set ?_ ?_ _); rotate_left; (simp <;> omega)) | (with_reducible refine Below.box_ ?_ _) | (with_reducible refine Below.next ?_ (by assumption)))))) (Sl.below V1.out (by (repeat (first | (with_reducible exact Below.refl _ _) | ((with_reducible refine Below.set ?_ ?_ _); rotate_left; (simp <;> omega)) | (with_reducible refine Below.box_ ?_ _) | (with_reducible refine Below.next ?_ (by assumption))))))).mono ?_
  rintro e u1 ⟨rfl, hb1⟩
  obtain ⟨hc1, hf1⟩ := bcell hb1
  have hz1 : w.heap.size < u1.heap.size ∧ w.heap.size + 1 < u1.heap.size := by have := hb1.size; (try simp at this); omega
  obtain ⟨hz1a, hz1b⟩ := hz1
  go_wp2_with fail
  refine (spec_l04List _ _ _ _ _ _ x.den y.den _ _ _ (Sl.below W2.out (by (repeat (first | (with_reducible exact Below.refl _ _) | ((with_reducible refine Below.set ?_ ?_ _); rotate_left; (simp <;> omega)) | (with_reducible refine Below.box_ ?_ _) | (with_reducible refine Below.next ?_ (by assumption)))))) (Sl.below V2.out (by (repeat (first | (with_reducible exact Below.refl _ _) | ((with_reducible refine Below.set ?_ ?_ _); rotate_left; (simp <;> omega)) | (with_reducible refine Below.box_ ?_ _) | (with_reducible refine Below.next ?_ (by assumption))))))).mono ?_
  rintro e u2 ⟨rfl, hb2⟩
  obtain ⟨hc2, hf2⟩ := bcell hb2
  have hz2 : w.heap.size < u2.heap.size ∧ w.heap.size + 1 < u2.heap.size := by have := hb2.size; (try simp at this); omega
  obtain ⟨hz2a, hz2b⟩ := hz2
  go_wp2
  go_ret
  have heq : x = y := @ext_TRat x y Q0.out Q1.out Q2.out
  exact ⟨ret_bool (by simp [heq]), by (repeat (first | (with_reducible exact Below.refl _ _) | ((with_reducible refine Below.set ?_ ?_ _); rotate_left; (simp <;> omega)) | (with_reducible refine Below.box_ ?_ _) | (with_reducible refine Below.next ?_ (by assumption))))⟩
set_option maxHeartbeats 1000000 in
theorem spec_SamePoint (v v' : Value) (x y : TPoint) (bs bs' : List Nat) (w : World) (hx : Agg w v x bs) (hy : Agg w v' y bs') : Calls Try.prog 52 #[v, v'] w (Gives w (.bool (decide (x = y)))) := by
  obtain ⟨A1, nA1, cA1, sA1, A2, nA2, cA2, sA2, A4, nA4, cA4, sA4, A5, nA5, cA5, sA5, rfl, rfl, w1, w2, w4, w5⟩ := TPoint.agg hx
  obtain ⟨B1, nB1, cB1, sB1, B2, nB2, cB2, sB2, B4, nB4, cB4, sB4, B5, nB5, cB5, sB5, rfl, rfl, v1, v2, v4, v5⟩ := TPoint.agg hy
  have W1 := hid w1; have V1 := hid v1
  have W2 := hid w2; have V2 := hid v2
  have W4 := hid w4; have V4 := hid v4
  have W5 := hid w5; have V5 := hid v5
  clear hx hy w1 v1 w2 v2 w4 v4 w5 v5
  by_cases q0 : x.x = y.x
  rotate_left
  · have g0 : decide (x.x = y.x) = false := by simp [q0]
    have Q := hid q0; clear q0
    go_enter Try.func52, Try.ntmps52
    go_wp2_with fail
    refine (spec_RatEqual _ _ x.x y.x _ _ _ (TRat.mkAgg (Sl.below W1.out (by (repeat (first | (with_reducible exact Below.refl _ _) | ((with_reducible refine Below.set ?_ ?_ _); rotate_left; (simp <;> omega)) | (with_reducible refine Below.box_ ?_ _) | (with_reducible refine Below.next ?_ (by assumption)))))) (Sl.below W2.out (by (repeat (first | (with_reducible exact Below.refl _ _) | ((with_reducible refine Below.set ?_ ?_ _); rotate_left; (simp <;> omega)) | (with_reducible refine Below.box_ ?_ _) | (with_reducible refine Below.next ?_ (by assumption))))))) (TRat.mkAgg (Sl.below V1.out (by (repeat (first | (with_reducible exact Below.refl _ _) | ((with_reducible refine Below.set ?_ ?_ _); rotate_left; (simp <;> omega)) | (with_reducible refine Below.box_ ?_ _) | (with_reducible refine Below.next ?_ (by assumption)))))) (Sl.below V2.out (by (repeat (first | (with_reducible exact Below.refl _ _) | ((with_reducible refine Below.set ?_ ?_ _); rotate_left; (simp <;> omega)) | (with_reducible refine Below.box_ ?_ _) | (with_reducible refine Below.next ?_ (by assumption)))))))).mono ?_
    rintro e u0 ⟨rfl, hb0⟩
    obtain ⟨hc0, hf0⟩ := bcell hb0
    have hz0 : w.heap.size < u0.heap.size ∧ w.heap.size + 1 < u0.heap.size := by have := hb0.size; (try simp at this); omega
    obtain ⟨hz0a, hz0b⟩ := hz0
    go_wp2
    go_ret
    exact ⟨ret_bool (by have : x ≠ y := fun e => Q.out (by rw [e]); simp [this]), by (repeat (first | (with_reducible exact Below.refl _ _) | ((with_reducible refine Below.set ?_ ?_ _); rotate_left; (simp <;> omega)) | (with_reducible refine Below.box_ ?_ _) | (with_reducible refine Below.next ?_ (by assumption))))⟩
  have g0 : decide (x.x = y.x) = true := by simp [q0]
  have Q0 := hid q0; clear q0
  by_cases q1 : x.y = y.y
  rotate_left
  · have g1 : decide (x.y = y.y) = false := by simp [q1]
    have Q := hid q1; clear q1
    go_enter Try.func52, Try.ntmps52
    go_wp2_with fail
    refine (spec_RatEqual _ _ x.x y.x _ _ _ (TRat.mkAgg (Sl.below W1.out (by (repeat (first | (with_reducible exact Below.refl _ _) | ((with_reducible refine Below.set ?_ ?_ _); rotate_left; (simp <;> omega)) | (with_reducible refine Below.box_ ?_ _) | (with_reducible refine Below.next ?_ (by assumption)))))) (Sl.below W2.out (by (repeat (first | (with_reducible exact Below.refl _ _) | ((with_reducible refine Below.set ?_ ?_ _); rotate_left; (simp <;> omega)) | (with_reducible refine Below.box_ ?_ _) | (with_reducible refine Below.next ?_ (by assumption))))))) (TRat.mkAgg (Sl.below V1.out (by (repeat (first | (with_reducible exact Below.refl _ _) | ((with_reducible refine Below.set ?_ ?_ _); rotate_left; (simp <;> omega)) | (with_reducible refine Below.box_ ?_ _) | (with_reducible refine Below.next ?_ (by assumption)))))) (Sl.below V2.out (by (repeat (first | (with_reducible exact Below.refl _ _) | ((with_reducible refine Below.set ?_ ?_ _); rotate_left; (simp <;> omega)) | (with_reducible refine Below.box_ ?_ _) | (with_reducible refine Below.next ?_ (by assumption)))))))).mono ?_
    rintro e u0 ⟨rfl, hb0⟩
    obtain ⟨hc0, hf0⟩ := bcell hb0
    have hz0 : w.heap.size < u0.heap.size ∧ w.heap.size + 1 < u0.heap.size := by have := hb0.size; (try simp at this); omega
    obtain ⟨hz0a, hz0b⟩ := hz0
    go_wp2_with fail
    refine (spec_RatEqual _ _ x.y y.y _ _ _ (TRat.mkAgg (Sl.below W4.out (by (repeat (first | (with_reducible exact Below.refl _ _) | ((with_reducible refine Below.set ?_ ?_ _); rotate_left; (simp <;> omega)) | (with_reducible refine Below.box_ ?_ _) | (with_reducible refine Below.next ?_ (by assumption)))))) (Sl.below W5.out (by (repeat (first | (with_reducible exact Below.refl _ _) | ((with_reducible refine Below.set ?_ ?_ _); rotate_left; (simp <;> omega)) | (with_reducible refine Below.box_ ?_ _) | (with_reducible refine Below.next ?_ (by assumption))))))) (TRat.mkAgg (Sl.below V4.out (by (repeat (first | (with_reducible exact Below.refl _ _) | ((with_reducible refine Below.set ?_ ?_ _); rotate_left; (simp <;> omega)) | (with_reducible refine Below.box_ ?_ _) | (with_reducible refine Below.next ?_ (by assumption)))))) (Sl.below V5.out (by (repeat (first | (with_reducible exact Below.refl _ _) | ((with_reducible refine Below.set ?_ ?_ _); rotate_left; (simp <;> omega)) | (with_reducible refine Below.box_ ?_ _) | (with_reducible refine Below.next ?_ (by assumption)))))))).mono ?_
    rintro e u1 ⟨rfl, hb1⟩
    obtain ⟨hc1, hf1⟩ := bcell hb1
    have hz1 : w.heap.size < u1.heap.size ∧ w.heap.size + 1 < u1.heap.size := by have := hb1.size; (try simp at this); omega
    obtain ⟨hz1a, hz1b⟩ := hz1
    go_wp2
    go_ret
    exact ⟨ret_bool (by have : x ≠ y := fun e => Q.out (by rw [e]); simp [this]), by (repeat (first | (with_reducible exact Below.refl _ _) | ((with_reducible refine Below.set ?_ ?_ _); rotate_left; (simp <;> omega)) | (with_reducible refine Below.box_ ?_ _) | (with_reducible refine Below.next ?_ (by assumption))))⟩
  have g1 : decide (x.y = y.y) = true := by simp [q1]
  have Q1 := hid q1; clear q1
  go_enter Try.func52, Try.ntmps52
  go_wp2_with fail
  refine (spec_RatEqual _ _ x.x y.x _ _ _ (TRat.mkAgg (Sl.below W1.out (by (repeat (first | (with_reducible exact Below.refl _ _) | ((with_reducible refine Below.set ?_ ?_ _); rotate_left; (simp <;> omega)) | (with_reducible refine Below.box_ ?_ _) | (with_reducible refine Below.next ?_ (by assumption)))))) (Sl.below W2.out (by (repeat (first | (with_reducible exact Below.refl _ _) | ((with_reducible refine Below.set ?_ ?_ _); rotate_left; (simp <;> omega)) | (with_reducible refine Below.box_ ?_ _) | (with_reducible refine Below.next ?_ (by assumption))))))) (TRat.mkAgg (Sl.below V1.out (by (repeat (first | (with_reducible exact Below.refl _ _) | ((with_reducible refine Below.set ?_ ?_ _); rotate_left; (simp <;> omega)) | (with_reducible refine Below.box_ ?_ _) | (with_reducible refine Below.next ?_ (by assumption)))))) (Sl.below V2.out (by (repeat (first | (with_reducible exact Below.refl _ _) | ((with_reducible refine Below.set ?_ ?_ _); rotate_left; (simp <;> omega)) | (with_reducible refine Below.box_ ?_ _) | (with_reducible refine Below.next ?_ (by assumption)))))))).mono ?_
  rintro e u0 ⟨rfl, hb0⟩
  obtain ⟨hc0, hf0⟩ := bcell hb0
  have hz0 : w.heap.size < u0.heap.size ∧ w.heap.size + 1 < u0.heap.size := by have := hb0.size; (try simp at this); omega
  obtain ⟨hz0a, hz0b⟩ := hz0
  go_wp2_with fail
  refine (spec_RatEqual _ _ x.y y.y _ _ _ (TRat.mkAgg (Sl.below W4.out (by (repeat (first | (with_reducible exact Below.refl _ _) | ((with_reducible refine Below.set ?_ ?_ _); rotate_left; (simp <;> omega)) | (with_reducible refine Below.box_ ?_ _) | (with_reducible refine Below.next ?_ (by assumption)))))) (Sl.below W5.out (by (repeat (first | (with_reducible exact Below.refl _ _) | ((with_reducible refine Below.set ?_ ?_ _); rotate_left; (simp <;> omega)) | (with_reducible refine Below.box_ ?_ _) | (with_reducible refine Below.next ?_ (by assumption))))))) (TRat.mkAgg (Sl.below V4.out (by (repeat (first | (with_reducible exact Below.refl _ _) | ((with_reducible refine Below.set ?_ ?_ _); rotate_left; (simp <;> omega)) | (with_reducible refine Below.box_ ?_ _) | (with_reducible refine Below.next ?_ (by assumption)))))) (Sl.below V5.out (by (repeat (first | (with_reducible exact Below.refl _ _) | ((with_reducible refine Below.set ?_ ?_ _); rotate_left; (simp <;> omega)) | (with_reducible refine Below.box_ ?_ _) | (with_reducible refine Below.next ?_ (by assumption)))))))).mono ?_
  rintro e u1 ⟨rfl, hb1⟩
  obtain ⟨hc1, hf1⟩ := bcell hb1
  have hz1 : w.heap.size < u1.heap.size ∧ w.heap.size + 1 < u1.heap.size := by have := hb1.size; (try simp at this); omega
  obtain ⟨hz1a, hz1b⟩ := hz1
  go_wp2
  go_ret
  have heq : x = y := @ext_TPoint x y Q0.out Q1.out
  exact ⟨ret_bool (by simp [heq]), by (repeat (first | (with_reducible exact Below.refl _ _) | ((with_reducible refine Below.set ?_ ?_ _); rotate_left; (simp <;> omega)) | (with_reducible refine Below.box_ ?_ _) | (with_reducible refine Below.next ?_ (by assumption))))⟩
set_option maxHeartbeats 1000000 in
theorem spec_SameReport (v v' : Value) (x y : TReport) (bs bs' : List Nat) (w : World) (hx : Agg w v x bs) (hy : Agg w v' y bs') : Calls Try.prog 9 #[v, v'] w (Gives w (.bool (decide (x = y)))) := by
  obtain ⟨A2, nA2, cA2, sA2, A3, nA3, cA3, sA3, A5, nA5, cA5, sA5, A6, nA6, cA6, sA6, rfl, rfl, w0, w2, w3, w5, w6⟩ := TReport.agg hx
  obtain ⟨B2, nB2, cB2, sB2, B3, nB3, cB3, sB3, B5, nB5, cB5, sB5, B6, nB6, cB6, sB6, rfl, rfl, v0, v2, v3, v5, v6⟩ := TReport.agg hy
  have W0 := hid w0; have V0 := hid v0
  have W2 := hid w2; have V2 := hid v2
  have W3 := hid w3; have V3 := hid v3
  have W5 := hid w5; have V5 := hid v5
  have W6 := hid w6; have V6 := hid v6
  clear hx hy w0 v0 w2 v2 w3 v3 w5 v5 w6 v6
  by_cases q0 : x.triangles = y.triangles
  rotate_left
  · have g0 : (x.triangles == y.triangles) = false := by simp [q0]
    have Q := hid q0; clear q0
    go_enter Try.func9, Try.ntmps9
    go_wp2
    go_ret
    exact ⟨ret_bool (by have : x ≠ y := fun e => Q.out (by rw [e]); simp [this]), by (repeat (first | (with_reducible exact Below.refl _ _) | ((with_reducible refine Below.set ?_ ?_ _); rotate_left; (simp <;> omega)) | (with_reducible refine Below.box_ ?_ _) | (with_reducible refine Below.next ?_ (by assumption))))⟩
  have g0 : (x.triangles == y.triangles) = true := by simp [q0]
  have Q0 := hid q0; clear q0
  by_cases q1 : x.energy = y.energy
  rotate_left
  · have g1 : decide (x.energy = y.energy) = false := by simp [q1]
    have Q := hid q1; clear q1
    go_enter Try.func9, Try.ntmps9
    go_wp2_with fail
    refine (spec_RatEqual _ _ x.energy y.energy _ _ _ (TRat.mkAgg (Sl.below W2.out (by (repeat (first | (with_reducible exact Below.refl _ _) | ((with_reducible refine Below.set ?_ ?_ _); rotate_left; (simp <;> omega)) | (with_reducible refine Below.box_ ?_ _) | (with_reducible refine Below.next ?_ (by assumption)))))) (Sl.below W3.out (by (repeat (first | (with_reducible exact Below.refl _ _) | ((with_reducible refine Below.set ?_ ?_ _); rotate_left; (simp <;> omega)) | (with_reducible refine Below.box_ ?_ _) | (with_reducible refine Below.next ?_ (by assumption))))))) (TRat.mkAgg (Sl.below V2.out (by (repeat (first | (with_reducible exact Below.refl _ _) | ((with_reducible refine Below.set ?_ ?_ _); rotate_left; (simp <;> omega)) | (with_reducible refine Below.box_ ?_ _) | (with_reducible refine Below.next ?_ (by assumption)))))) (Sl.below V3.out (by (repeat (first | (with_reducible exact Below.refl _ _) | ((with_reducible refine Below.set ?_ ?_ _); rotate_left; (simp <;> omega)) | (with_reducible refine Below.box_ ?_ _) | (with_reducible refine Below.next ?_ (by assumption)))))))).mono ?_
    rintro e u1 ⟨rfl, hb1⟩
    obtain ⟨hc1, hf1⟩ := bcell hb1
    have hz1 : w.heap.size < u1.heap.size ∧ w.heap.size + 1 < u1.heap.size := by have := hb1.size; (try simp at this); omega
    obtain ⟨hz1a, hz1b⟩ := hz1
    go_wp2
    go_ret
    exact ⟨ret_bool (by have : x ≠ y := fun e => Q.out (by rw [e]); simp [this]), by (repeat (first | (with_reducible exact Below.refl _ _) | ((with_reducible refine Below.set ?_ ?_ _); rotate_left; (simp <;> omega)) | (with_reducible refine Below.box_ ?_ _) | (with_reducible refine Below.next ?_ (by assumption))))⟩
  have g1 : decide (x.energy = y.energy) = true := by simp [q1]
  have Q1 := hid q1; clear q1
  by_cases q2 : x.bound = y.bound
  rotate_left
  · have g2 : decide (x.bound = y.bound) = false := by simp [q2]
    have Q := hid q2; clear q2
    go_enter Try.func9, Try.ntmps9
    go_wp2_with fail
    refine (spec_RatEqual _ _ x.energy y.energy _ _ _ (TRat.mkAgg (Sl.below W2.out (by (repeat (first | (with_reducible exact Below.refl _ _) | ((with_reducible refine Below.set ?_ ?_ _); rotate_left; (simp <;> omega)) | (with_reducible refine Below.box_ ?_ _) | (with_reducible refine Below.next ?_ (by assumption)))))) (Sl.below W3.out (by (repeat (first | (with_reducible exact Below.refl _ _) | ((with_reducible refine Below.set ?_ ?_ _); rotate_left; (simp <;> omega)) | (with_reducible refine Below.box_ ?_ _) | (with_reducible refine Below.next ?_ (by assumption))))))) (TRat.mkAgg (Sl.below V2.out (by (repeat (first | (with_reducible exact Below.refl _ _) | ((with_reducible refine Below.set ?_ ?_ _); rotate_left; (simp <;> omega)) | (with_reducible refine Below.box_ ?_ _) | (with_reducible refine Below.next ?_ (by assumption)))))) (Sl.below V3.out (by (repeat (first | (with_reducible exact Below.refl _ _) | ((with_reducible refine Below.set ?_ ?_ _); rotate_left; (simp <;> omega)) | (with_reducible refine Below.box_ ?_ _) | (with_reducible refine Below.next ?_ (by assumption)))))))).mono ?_
    rintro e u1 ⟨rfl, hb1⟩
    obtain ⟨hc1, hf1⟩ := bcell hb1
    have hz1 : w.heap.size < u1.heap.size ∧ w.heap.size + 1 < u1.heap.size := by have := hb1.size; (try simp at this); omega
    obtain ⟨hz1a, hz1b⟩ := hz1
    go_wp2_with fail
    refine (spec_RatEqual _ _ x.bound y.bound _ _ _ (TRat.mkAgg (Sl.below W5.out (by (repeat (first | (with_reducible exact Below.refl _ _) | ((with_reducible refine Below.set ?_ ?_ _); rotate_left; (simp <;> omega)) | (with_reducible refine Below.box_ ?_ _) | (with_reducible refine Below.next ?_ (by assumption)))))) (Sl.below W6.out (by (repeat (first | (with_reducible exact Below.refl _ _) | ((with_reducible refine Below.set ?_ ?_ _); rotate_left; (simp <;> omega)) | (with_reducible refine Below.box_ ?_ _) | (with_reducible refine Below.next ?_ (by assumption))))))) (TRat.mkAgg (Sl.below V5.out (by (repeat (first | (with_reducible exact Below.refl _ _) | ((with_reducible refine Below.set ?_ ?_ _); rotate_left; (simp <;> omega)) | (with_reducible refine Below.box_ ?_ _) | (with_reducible refine Below.next ?_ (by assumption)))))) (Sl.below V6.out (by (repeat (first | (with_reducible exact Below.refl _ _) | ((with_reducible refine Below.set ?_ ?_ _); rotate_left; (simp <;> omega)) | (with_reducible refine Below.box_ ?_ _) | (with_reducible refine Below.next ?_ (by assumption)))))))).mono ?_
    rintro e u2 ⟨rfl, hb2⟩
    obtain ⟨hc2, hf2⟩ := bcell hb2
    have hz2 : w.heap.size < u2.heap.size ∧ w.heap.size + 1 < u2.heap.size := by have := hb2.size; (try simp at this); omega
    obtain ⟨hz2a, hz2b⟩ := hz2
    go_wp2
    go_ret
    exact ⟨ret_bool (by have : x ≠ y := fun e => Q.out (by rw [e]); simp [this]), by (repeat (first | (with_reducible exact Below.refl _ _) | ((with_reducible refine Below.set ?_ ?_ _); rotate_left; (simp <;> omega)) | (with_reducible refine Below.box_ ?_ _) | (with_reducible refine Below.next ?_ (by assumption))))⟩
  have g2 : decide (x.bound = y.bound) = true := by simp [q2]
  have Q2 := hid q2; clear q2
  go_enter Try.func9, Try.ntmps9
  go_wp2_with fail
  refine (spec_RatEqual _ _ x.energy y.energy _ _ _ (TRat.mkAgg (Sl.below W2.out (by (repeat (first | (with_reducible exact Below.refl _ _) | ((with_reducible refine Below.set ?_ ?_ _); rotate_left; (simp <;> omega)) | (with_reducible refine Below.box_ ?_ _) | (with_reducible refine Below.next ?_ (by assumption)))))) (Sl.below W3.out (by (repeat (first | (with_reducible exact Below.refl _ _) | ((with_reducible refine Below.set ?_ ?_ _); rotate_left; (simp <;> omega)) | (with_reducible refine Below.box_ ?_ _) | (with_reducible refine Below.next ?_ (by assumption))))))) (TRat.mkAgg (Sl.below V2.out (by (repeat (first | (with_reducible exact Below.refl _ _) | ((with_reducible refine Below.set ?_ ?_ _); rotate_left; (simp <;> omega)) | (with_reducible refine Below.box_ ?_ _) | (with_reducible refine Below.next ?_ (by assumption)))))) (Sl.below V3.out (by (repeat (first | (with_reducible exact Below.refl _ _) | ((with_reducible refine Below.set ?_ ?_ _); rotate_left; (simp <;> omega)) | (with_reducible refine Below.box_ ?_ _) | (with_reducible refine Below.next ?_ (by assumption)))))))).mono ?_
  rintro e u1 ⟨rfl, hb1⟩
  obtain ⟨hc1, hf1⟩ := bcell hb1
  have hz1 : w.heap.size < u1.heap.size ∧ w.heap.size + 1 < u1.heap.size := by have := hb1.size; (try simp at this); omega
  obtain ⟨hz1a, hz1b⟩ := hz1
  go_wp2_with fail
  refine (spec_RatEqual _ _ x.bound y.bound _ _ _ (TRat.mkAgg (Sl.below W5.out (by (repeat (first | (with_reducible exact Below.refl _ _) | ((with_reducible refine Below.set ?_ ?_ _); rotate_left; (simp <;> omega)) | (with_reducible refine Below.box_ ?_ _) | (with_reducible refine Below.next ?_ (by assumption)))))) (Sl.below W6.out (by (repeat (first | (with_reducible exact Below.refl _ _) | ((with_reducible refine Below.set ?_ ?_ _); rotate_left; (simp <;> omega)) | (with_reducible refine Below.box_ ?_ _) | (with_reducible refine Below.next ?_ (by assumption))))))) (TRat.mkAgg (Sl.below V5.out (by (repeat (first | (with_reducible exact Below.refl _ _) | ((with_reducible refine Below.set ?_ ?_ _); rotate_left; (simp <;> omega)) | (with_reducible refine Below.box_ ?_ _) | (with_reducible refine Below.next ?_ (by assumption)))))) (Sl.below V6.out (by (repeat (first | (with_reducible exact Below.refl _ _) | ((with_reducible refine Below.set ?_ ?_ _); rotate_left; (simp <;> omega)) | (with_reducible refine Below.box_ ?_ _) | (with_reducible refine Below.next ?_ (by assumption)))))))).mono ?_
  rintro e u2 ⟨rfl, hb2⟩
  obtain ⟨hc2, hf2⟩ := bcell hb2
  have hz2 : w.heap.size < u2.heap.size ∧ w.heap.size + 1 < u2.heap.size := by have := hb2.size; (try simp at this); omega
  obtain ⟨hz2a, hz2b⟩ := hz2
  go_wp2
  go_ret
  have heq : x = y := @ext_TReport x y Q0.out Q1.out Q2.out
  exact ⟨ret_bool (by simp [heq]), by (repeat (first | (with_reducible exact Below.refl _ _) | ((with_reducible refine Below.set ?_ ?_ _); rotate_left; (simp <;> omega)) | (with_reducible refine Below.box_ ?_ _) | (with_reducible refine Below.next ?_ (by assumption))))⟩
end Go.Proofs.Ytmhcfdipnofohaa.X
