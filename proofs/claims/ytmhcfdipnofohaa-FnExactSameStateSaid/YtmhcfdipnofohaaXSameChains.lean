/- Meshes, problems and states compared: the chains. Written by gen_law.py. -/
import Derived.Test.YtmhcfdipnofohaaXSameState
import Derived.WalkLawsBesides
import Derived.ProofKit
namespace Go.Proofs.Ytmhcfdipnofohaa.X
open Go.RowKit Go.XB
theorem ext_TProblem {x y : TProblem} (a : x.mesh = y.mesh) (b : x.diffusion = y.diffusion) (c : x.source = y.source) : x = y := by
  obtain ⟨_, _, _⟩ := x; obtain ⟨_, _, _⟩ := y; simp only at a b c; rw [a, b, c]
theorem ext_TState {x y : TState} (a : x.problem = y.problem) (b : x.part = y.part) (c : x.reports = y.reports) : x = y := by
  obtain ⟨_, _, _⟩ := x; obtain ⟨_, _, _⟩ := y; simp only at a b c; rw [a, b, c]
theorem impl_sameVector (A A' : Option Addr) (n n' c c' : Nat) (xs ys : List TRat) (bs bs' : List Nat) (w : World) (hx : Sl w A n c xs bs) (hy : Sl w A' n' c' ys bs') :
    Calls Try.prog 47 #[.slice A n c, .slice A' n' c'] w (Gives w (.bool (decide (xs = ys)))) := by
  have HX := hid hx; have HY := hid hy
  clear hx hy
  go_enter Try.func47, Try.ntmps47
  go_wp2_with fail
  refine (slices_EqualFunc_impl_Rat_impl_Rat_impl_Rat_impl_Rat _ _ _ _ _ _ xs ys _ _ _ HX.out HY.out).mono ?_
  rintro e u ⟨rfl, hb⟩
  go_wp2
  go_ret
  exact ⟨rfl, hb⟩
set_option maxHeartbeats 1000000 in
theorem impl_SameMesh (v v' : Value) (x y : TMesh) (bs bs' : List Nat) (w : World) (hx : Agg w v x bs) (hy : Agg w v' y bs') : Calls Try.prog 46 #[v, v'] w (Gives w (.bool (decide (x = y)))) := by
  obtain ⟨A0, nA0, cA0, sA0, A1, nA1, cA1, sA1, rfl, rfl, w0, w1⟩ := TMesh.agg hx
  obtain ⟨B0, nB0, cB0, sB0, B1, nB1, cB1, sB1, rfl, rfl, v0, v1⟩ := TMesh.agg hy
  have W0 := hid w0; have V0 := hid v0
  have W1 := hid w1; have V1 := hid v1
  clear hx hy w0 v0 w1 v1
  by_cases q0 : x.points = y.points
  rotate_left
  · have g0 : decide (x.points = y.points) = false := by simp [q0]
    have Q := hid q0; clear q0
    go_enter Try.func46, Try.ntmps46
    go_wp2_with fail
    refine (slices_EqualFunc_impl_Point_impl_Point_impl_Point_impl_Point _ _ _ _ _ _ x.points y.points _ _ _ (Sl.below W0.out (by (repeat (first | (with_reducible exact Below.refl _ _) | ((with_reducible refine Below.set ?_ ?_ _); rotate_left; (simp <;> omega)) | (with_reducible refine Below.box_ ?_ _) | (with_reducible refine Below.next ?_ (by assumption)))))) (Sl.below V0.out (by (repeat (first | (with_reducible exact Below.refl _ _) | ((with_reducible refine Below.set ?_ ?_ _); rotate_left; (simp <;> omega)) | (with_reducible refine Below.box_ ?_ _) | (with_reducible refine Below.next ?_ (by assumption))))))).mono ?_
    rintro e u0 ⟨rfl, hb0⟩
    obtain ⟨hc0, hf0⟩ := bcell hb0
    have hz0 : w.heap.size < u0.heap.size ∧ w.heap.size + 1 < u0.heap.size := by have := hb0.size; (try simp at this); omega
    obtain ⟨hz0a, hz0b⟩ := hz0
    go_wp2
    go_ret
    exact ⟨ret_bool (by have : x ≠ y := fun e => Q.out (by rw [e]); simp [this]), by (repeat (first | (with_reducible exact Below.refl _ _) | ((with_reducible refine Below.set ?_ ?_ _); rotate_left; (simp <;> omega)) | (with_reducible refine Below.box_ ?_ _) | (with_reducible refine Below.next ?_ (by assumption))))⟩
  have g0 : decide (x.points = y.points) = true := by simp [q0]
  have Q0 := hid q0; clear q0
  by_cases q1 : x.triangles = y.triangles
  rotate_left
  · have g1 : decide (x.triangles = y.triangles) = false := by simp [q1]
    have Q := hid q1; clear q1
    go_enter Try.func46, Try.ntmps46
    go_wp2_with fail
    refine (slices_EqualFunc_impl_Point_impl_Point_impl_Point_impl_Point _ _ _ _ _ _ x.points y.points _ _ _ (Sl.below W0.out (by (repeat (first | (with_reducible exact Below.refl _ _) | ((with_reducible refine Below.set ?_ ?_ _); rotate_left; (simp <;> omega)) | (with_reducible refine Below.box_ ?_ _) | (with_reducible refine Below.next ?_ (by assumption)))))) (Sl.below V0.out (by (repeat (first | (with_reducible exact Below.refl _ _) | ((with_reducible refine Below.set ?_ ?_ _); rotate_left; (simp <;> omega)) | (with_reducible refine Below.box_ ?_ _) | (with_reducible refine Below.next ?_ (by assumption))))))).mono ?_
    rintro e u0 ⟨rfl, hb0⟩
    obtain ⟨hc0, hf0⟩ := bcell hb0
    have hz0 : w.heap.size < u0.heap.size ∧ w.heap.size + 1 < u0.heap.size := by have := hb0.size; (try simp at this); omega
    obtain ⟨hz0a, hz0b⟩ := hz0
    go_wp2_with fail
    refine (slices_Equal_impl_Tri_impl_Tri _ _ _ _ _ _ x.triangles y.triangles _ _ _ (Sl.below W1.out (by (repeat (first | (with_reducible exact Below.refl _ _) | ((with_reducible refine Below.set ?_ ?_ _); rotate_left; (simp <;> omega)) | (with_reducible refine Below.box_ ?_ _) | (with_reducible refine Below.next ?_ (by assumption)))))) (Sl.below V1.out (by (repeat (first | (with_reducible exact Below.refl _ _) | ((with_reducible refine Below.set ?_ ?_ _); rotate_left; (simp <;> omega)) | (with_reducible refine Below.box_ ?_ _) | (with_reducible refine Below.next ?_ (by assumption))))))).mono ?_
    rintro e u1 ⟨rfl, hb1⟩
    obtain ⟨hc1, hf1⟩ := bcell hb1
    have hz1 : w.heap.size < u1.heap.size ∧ w.heap.size + 1 < u1.heap.size := by have := hb1.size; (try simp at this); omega
    obtain ⟨hz1a, hz1b⟩ := hz1
    go_wp2
    go_ret
    exact ⟨ret_bool (by have : x ≠ y := fun e => Q.out (by rw [e]); simp [this]), by (repeat (first | (with_reducible exact Below.refl _ _) | ((with_reducible refine Below.set ?_ ?_ _); rotate_left; (simp <;> omega)) | (with_reducible refine Below.box_ ?_ _) | (with_reducible refine Below.next ?_ (by assumption))))⟩
  have g1 : decide (x.triangles = y.triangles) = true := by simp [q1]
  have Q1 := hid q1; clear q1
  go_enter Try.func46, Try.ntmps46
  go_wp2_with fail
  refine (slices_EqualFunc_impl_Point_impl_Point_impl_Point_impl_Point _ _ _ _ _ _ x.points y.points _ _ _ (Sl.below W0.out (by (repeat (first | (with_reducible exact Below.refl _ _) | ((with_reducible refine Below.set ?_ ?_ _); rotate_left; (simp <;> omega)) | (with_reducible refine Below.box_ ?_ _) | (with_reducible refine Below.next ?_ (by assumption)))))) (Sl.below V0.out (by (repeat (first | (with_reducible exact Below.refl _ _) | ((with_reducible refine Below.set ?_ ?_ _); rotate_left; (simp <;> omega)) | (with_reducible refine Below.box_ ?_ _) | (with_reducible refine Below.next ?_ (by assumption))))))).mono ?_
  rintro e u0 ⟨rfl, hb0⟩
  obtain ⟨hc0, hf0⟩ := bcell hb0
  have hz0 : w.heap.size < u0.heap.size ∧ w.heap.size + 1 < u0.heap.size := by have := hb0.size; (try simp at this); omega
  obtain ⟨hz0a, hz0b⟩ := hz0
  go_wp2_with fail
  refine (slices_Equal_impl_Tri_impl_Tri _ _ _ _ _ _ x.triangles y.triangles _ _ _ (Sl.below W1.out (by (repeat (first | (with_reducible exact Below.refl _ _) | ((with_reducible refine Below.set ?_ ?_ _); rotate_left; (simp <;> omega)) | (with_reducible refine Below.box_ ?_ _) | (with_reducible refine Below.next ?_ (by assumption)))))) (Sl.below V1.out (by (repeat (first | (with_reducible exact Below.refl _ _) | ((with_reducible refine Below.set ?_ ?_ _); rotate_left; (simp <;> omega)) | (with_reducible refine Below.box_ ?_ _) | (with_reducible refine Below.next ?_ (by assumption))))))).mono ?_
  rintro e u1 ⟨rfl, hb1⟩
  obtain ⟨hc1, hf1⟩ := bcell hb1
  have hz1 : w.heap.size < u1.heap.size ∧ w.heap.size + 1 < u1.heap.size := by have := hb1.size; (try simp at this); omega
  obtain ⟨hz1a, hz1b⟩ := hz1
  go_wp2
  go_ret
  have heq : x = y := @ext_TMesh x y Q0.out Q1.out
  exact ⟨ret_bool (by simp [heq]), by (repeat (first | (with_reducible exact Below.refl _ _) | ((with_reducible refine Below.set ?_ ?_ _); rotate_left; (simp <;> omega)) | (with_reducible refine Below.box_ ?_ _) | (with_reducible refine Below.next ?_ (by assumption))))⟩
set_option maxHeartbeats 1000000 in
theorem impl_SameProblem (v v' : Value) (x y : TProblem) (bs bs' : List Nat) (w : World) (hx : Agg w v x bs) (hy : Agg w v' y bs') : Calls Try.prog 28 #[v, v'] w (Gives w (.bool (decide (x = y)))) := by
  obtain ⟨A0, nA0, cA0, sA0, A1, nA1, cA1, sA1, A2, nA2, cA2, sA2, A3, nA3, cA3, sA3, rfl, rfl, w0, w1, w2, w3⟩ := TProblem.agg hx
  obtain ⟨B0, nB0, cB0, sB0, B1, nB1, cB1, sB1, B2, nB2, cB2, sB2, B3, nB3, cB3, sB3, rfl, rfl, v0, v1, v2, v3⟩ := TProblem.agg hy
  have W0 := hid w0; have V0 := hid v0
  have W1 := hid w1; have V1 := hid v1
  have W2 := hid w2; have V2 := hid v2
  have W3 := hid w3; have V3 := hid v3
  clear hx hy w0 v0 w1 v1 w2 v2 w3 v3
  by_cases q0 : x.mesh = y.mesh
  rotate_left
  · have g0 : decide (x.mesh = y.mesh) = false := by simp [q0]
    have Q := hid q0; clear q0
    go_enter Try.func28, Try.ntmps28
    go_wp2_with fail
    refine (impl_SameMesh _ _ x.mesh y.mesh _ _ _ (TMesh.mkAgg (Sl.below W0.out (by (repeat (first | (with_reducible exact Below.refl _ _) | ((with_reducible refine Below.set ?_ ?_ _); rotate_left; (simp <;> omega)) | (with_reducible refine Below.box_ ?_ _) | (with_reducible refine Below.next ?_ (by assumption)))))) (Sl.below W1.out (by (repeat (first | (with_reducible exact Below.refl _ _) | ((with_reducible refine Below.set ?_ ?_ _); rotate_left; (simp <;> omega)) | (with_reducible refine Below.box_ ?_ _) | (with_reducible refine Below.next ?_ (by assumption))))))) (TMesh.mkAgg (Sl.below V0.out (by (repeat (first | (with_reducible exact Below.refl _ _) | ((with_reducible refine Below.set ?_ ?_ _); rotate_left; (simp <;> omega)) | (with_reducible refine Below.box_ ?_ _) | (with_reducible refine Below.next ?_ (by assumption)))))) (Sl.below V1.out (by (repeat (first | (with_reducible exact Below.refl _ _) | ((with_reducible refine Below.set ?_ ?_ _); rotate_left; (simp <;> omega)) | (with_reducible refine Below.box_ ?_ _) | (with_reducible refine Below.next ?_ (by assumption)))))))).mono ?_
    rintro e u0 ⟨rfl, hb0⟩
    obtain ⟨hc0, hf0⟩ := bcell hb0
    have hz0 : w.heap.size < u0.heap.size ∧ w.heap.size + 1 < u0.heap.size := by have := hb0.size; (try simp at this); omega
    obtain ⟨hz0a, hz0b⟩ := hz0
    go_wp2
    go_ret
    exact ⟨ret_bool (by have : x ≠ y := fun e => Q.out (by rw [e]); simp [this]), by (repeat (first | (with_reducible exact Below.refl _ _) | ((with_reducible refine Below.set ?_ ?_ _); rotate_left; (simp <;> omega)) | (with_reducible refine Below.box_ ?_ _) | (with_reducible refine Below.next ?_ (by assumption))))⟩
  have g0 : decide (x.mesh = y.mesh) = true := by simp [q0]
  have Q0 := hid q0; clear q0
  by_cases q1 : x.diffusion = y.diffusion
  rotate_left
  · have g1 : decide (x.diffusion = y.diffusion) = false := by simp [q1]
    have Q := hid q1; clear q1
    go_enter Try.func28, Try.ntmps28
    go_wp2_with fail
    refine (impl_SameMesh _ _ x.mesh y.mesh _ _ _ (TMesh.mkAgg (Sl.below W0.out (by (repeat (first | (with_reducible exact Below.refl _ _) | ((with_reducible refine Below.set ?_ ?_ _); rotate_left; (simp <;> omega)) | (with_reducible refine Below.box_ ?_ _) | (with_reducible refine Below.next ?_ (by assumption)))))) (Sl.below W1.out (by (repeat (first | (with_reducible exact Below.refl _ _) | ((with_reducible refine Below.set ?_ ?_ _); rotate_left; (simp <;> omega)) | (with_reducible refine Below.box_ ?_ _) | (with_reducible refine Below.next ?_ (by assumption))))))) (TMesh.mkAgg (Sl.below V0.out (by (repeat (first | (with_reducible exact Below.refl _ _) | ((with_reducible refine Below.set ?_ ?_ _); rotate_left; (simp <;> omega)) | (with_reducible refine Below.box_ ?_ _) | (with_reducible refine Below.next ?_ (by assumption)))))) (Sl.below V1.out (by (repeat (first | (with_reducible exact Below.refl _ _) | ((with_reducible refine Below.set ?_ ?_ _); rotate_left; (simp <;> omega)) | (with_reducible refine Below.box_ ?_ _) | (with_reducible refine Below.next ?_ (by assumption)))))))).mono ?_
    rintro e u0 ⟨rfl, hb0⟩
    obtain ⟨hc0, hf0⟩ := bcell hb0
    have hz0 : w.heap.size < u0.heap.size ∧ w.heap.size + 1 < u0.heap.size := by have := hb0.size; (try simp at this); omega
    obtain ⟨hz0a, hz0b⟩ := hz0
    go_wp2_with fail
    refine (impl_sameVector _ _ _ _ _ _ x.diffusion y.diffusion _ _ _ (Sl.below W2.out (by (repeat (first | (with_reducible exact Below.refl _ _) | ((with_reducible refine Below.set ?_ ?_ _); rotate_left; (simp <;> omega)) | (with_reducible refine Below.box_ ?_ _) | (with_reducible refine Below.next ?_ (by assumption)))))) (Sl.below V2.out (by (repeat (first | (with_reducible exact Below.refl _ _) | ((with_reducible refine Below.set ?_ ?_ _); rotate_left; (simp <;> omega)) | (with_reducible refine Below.box_ ?_ _) | (with_reducible refine Below.next ?_ (by assumption))))))).mono ?_
    rintro e u1 ⟨rfl, hb1⟩
    obtain ⟨hc1, hf1⟩ := bcell hb1
    have hz1 : w.heap.size < u1.heap.size ∧ w.heap.size + 1 < u1.heap.size := by have := hb1.size; (try simp at this); omega
    obtain ⟨hz1a, hz1b⟩ := hz1
    go_wp2
    go_ret
    exact ⟨ret_bool (by have : x ≠ y := fun e => Q.out (by rw [e]); simp [this]), by (repeat (first | (with_reducible exact Below.refl _ _) | ((with_reducible refine Below.set ?_ ?_ _); rotate_left; (simp <;> omega)) | (with_reducible refine Below.box_ ?_ _) | (with_reducible refine Below.next ?_ (by assumption))))⟩
  have g1 : decide (x.diffusion = y.diffusion) = true := by simp [q1]
  have Q1 := hid q1; clear q1
  by_cases q2 : x.source = y.source
  rotate_left
  · have g2 : decide (x.source = y.source) = false := by simp [q2]
    have Q := hid q2; clear q2
    go_enter Try.func28, Try.ntmps28
    go_wp2_with fail
    refine (impl_SameMesh _ _ x.mesh y.mesh _ _ _ (TMesh.mkAgg (Sl.below W0.out (by (repeat (first | (with_reducible exact Below.refl _ _) | ((with_reducible refine Below.set ?_ ?_ _); rotate_left; (simp <;> omega)) | (with_reducible refine Below.box_ ?_ _) | (with_reducible refine Below.next ?_ (by assumption)))))) (Sl.below W1.out (by (repeat (first | (with_reducible exact Below.refl _ _) | ((with_reducible refine Below.set ?_ ?_ _); rotate_left; (simp <;> omega)) | (with_reducible refine Below.box_ ?_ _) | (with_reducible refine Below.next ?_ (by assumption))))))) (TMesh.mkAgg (Sl.below V0.out (by (repeat (first | (with_reducible exact Below.refl _ _) | ((with_reducible refine Below.set ?_ ?_ _); rotate_left; (simp <;> omega)) | (with_reducible refine Below.box_ ?_ _) | (with_reducible refine Below.next ?_ (by assumption)))))) (Sl.below V1.out (by (repeat (first | (with_reducible exact Below.refl _ _) | ((with_reducible refine Below.set ?_ ?_ _); rotate_left; (simp <;> omega)) | (with_reducible refine Below.box_ ?_ _) | (with_reducible refine Below.next ?_ (by assumption)))))))).mono ?_
    rintro e u0 ⟨rfl, hb0⟩
    obtain ⟨hc0, hf0⟩ := bcell hb0
    have hz0 : w.heap.size < u0.heap.size ∧ w.heap.size + 1 < u0.heap.size := by have := hb0.size; (try simp at this); omega
    obtain ⟨hz0a, hz0b⟩ := hz0
    go_wp2_with fail
    refine (impl_sameVector _ _ _ _ _ _ x.diffusion y.diffusion _ _ _ (Sl.below W2.out (by (repeat (first | (with_reducible exact Below.refl _ _) | ((with_reducible refine Below.set ?_ ?_ _); rotate_left; (simp <;> omega)) | (with_reducible refine Below.box_ ?_ _) | (with_reducible refine Below.next ?_ (by assumption)))))) (Sl.below V2.out (by (repeat (first | (with_reducible exact Below.refl _ _) | ((with_reducible refine Below.set ?_ ?_ _); rotate_left; (simp <;> omega)) | (with_reducible refine Below.box_ ?_ _) | (with_reducible refine Below.next ?_ (by assumption))))))).mono ?_
    rintro e u1 ⟨rfl, hb1⟩
    obtain ⟨hc1, hf1⟩ := bcell hb1
    have hz1 : w.heap.size < u1.heap.size ∧ w.heap.size + 1 < u1.heap.size := by have := hb1.size; (try simp at this); omega
    obtain ⟨hz1a, hz1b⟩ := hz1
    go_wp2_with fail
    refine (impl_sameVector _ _ _ _ _ _ x.source y.source _ _ _ (Sl.below W3.out (by (repeat (first | (with_reducible exact Below.refl _ _) | ((with_reducible refine Below.set ?_ ?_ _); rotate_left; (simp <;> omega)) | (with_reducible refine Below.box_ ?_ _) | (with_reducible refine Below.next ?_ (by assumption)))))) (Sl.below V3.out (by (repeat (first | (with_reducible exact Below.refl _ _) | ((with_reducible refine Below.set ?_ ?_ _); rotate_left; (simp <;> omega)) | (with_reducible refine Below.box_ ?_ _) | (with_reducible refine Below.next ?_ (by assumption))))))).mono ?_
    rintro e u2 ⟨rfl, hb2⟩
    obtain ⟨hc2, hf2⟩ := bcell hb2
    have hz2 : w.heap.size < u2.heap.size ∧ w.heap.size + 1 < u2.heap.size := by have := hb2.size; (try simp at this); omega
    obtain ⟨hz2a, hz2b⟩ := hz2
    go_wp2
    go_ret
    exact ⟨ret_bool (by have : x ≠ y := fun e => Q.out (by rw [e]); simp [this]), by (repeat (first | (with_reducible exact Below.refl _ _) | ((with_reducible refine Below.set ?_ ?_ _); rotate_left; (simp <;> omega)) | (with_reducible refine Below.box_ ?_ _) | (with_reducible refine Below.next ?_ (by assumption))))⟩
  have g2 : decide (x.source = y.source) = true := by simp [q2]
  have Q2 := hid q2; clear q2
  go_enter Try.func28, Try.ntmps28
  go_wp2_with fail
  refine (impl_SameMesh _ _ x.mesh y.mesh _ _ _ (TMesh.mkAgg (Sl.below W0.out (by (repeat (first | (with_reducible exact Below.refl _ _) | ((with_reducible refine Below.set ?_ ?_ _); rotate_left; (simp <;> omega)) | (with_reducible refine Below.box_ ?_ _) | (with_reducible refine Below.next ?_ (by assumption)))))) (Sl.below W1.out (by (repeat (first | (with_reducible exact Below.refl _ _) | ((with_reducible refine Below.set ?_ ?_ _); rotate_left; (simp <;> omega)) | (with_reducible refine Below.box_ ?_ _) | (with_reducible refine Below.next ?_ (by assumption))))))) (TMesh.mkAgg (Sl.below V0.out (by (repeat (first | (with_reducible exact Below.refl _ _) | ((with_reducible refine Below.set ?_ ?_ _); rotate_left; (simp <;> omega)) | (with_reducible refine Below.box_ ?_ _) | (with_reducible refine Below.next ?_ (by assumption)))))) (Sl.below V1.out (by (repeat (first | (with_reducible exact Below.refl _ _) | ((with_reducible refine Below.set ?_ ?_ _); rotate_left; (simp <;> omega)) | (with_reducible refine Below.box_ ?_ _) | (with_reducible refine Below.next ?_ (by assumption)))))))).mono ?_
  rintro e u0 ⟨rfl, hb0⟩
  obtain ⟨hc0, hf0⟩ := bcell hb0
  have hz0 : w.heap.size < u0.heap.size ∧ w.heap.size + 1 < u0.heap.size := by have := hb0.size; (try simp at this); omega
  obtain ⟨hz0a, hz0b⟩ := hz0
  go_wp2_with fail
  refine (impl_sameVector _ _ _ _ _ _ x.diffusion y.diffusion _ _ _ (Sl.below W2.out (by (repeat (first | (with_reducible exact Below.refl _ _) | ((with_reducible refine Below.set ?_ ?_ _); rotate_left; (simp <;> omega)) | (with_reducible refine Below.box_ ?_ _) | (with_reducible refine Below.next ?_ (by assumption)))))) (Sl.below V2.out (by (repeat (first | (with_reducible exact Below.refl _ _) | ((with_reducible refine Below.set ?_ ?_ _); rotate_left; (simp <;> omega)) | (with_reducible refine Below.box_ ?_ _) | (with_reducible refine Below.next ?_ (by assumption))))))).mono ?_
  rintro e u1 ⟨rfl, hb1⟩
  obtain ⟨hc1, hf1⟩ := bcell hb1
  have hz1 : w.heap.size < u1.heap.size ∧ w.heap.size + 1 < u1.heap.size := by have := hb1.size; (try simp at this); omega
  obtain ⟨hz1a, hz1b⟩ := hz1
  go_wp2_with fail
  refine (impl_sameVector _ _ _ _ _ _ x.source y.source _ _ _ (Sl.below W3.out (by (repeat (first | (with_reducible exact Below.refl _ _) | ((with_reducible refine Below.set ?_ ?_ _); rotate_left; (simp <;> omega)) | (with_reducible refine Below.box_ ?_ _) | (with_reducible refine Below.next ?_ (by assumption)))))) (Sl.below V3.out (by (repeat (first | (with_reducible exact Below.refl _ _) | ((with_reducible refine Below.set ?_ ?_ _); rotate_left; (simp <;> omega)) | (with_reducible refine Below.box_ ?_ _) | (with_reducible refine Below.next ?_ (by assumption))))))).mono ?_
  rintro e u2 ⟨rfl, hb2⟩
  obtain ⟨hc2, hf2⟩ := bcell hb2
  have hz2 : w.heap.size < u2.heap.size ∧ w.heap.size + 1 < u2.heap.size := by have := hb2.size; (try simp at this); omega
  obtain ⟨hz2a, hz2b⟩ := hz2
  go_wp2
  go_ret
  have heq : x = y := @ext_TProblem x y Q0.out Q1.out Q2.out
  exact ⟨ret_bool (by simp [heq]), by (repeat (first | (with_reducible exact Below.refl _ _) | ((with_reducible refine Below.set ?_ ?_ _); rotate_left; (simp <;> omega)) | (with_reducible refine Below.box_ ?_ _) | (with_reducible refine Below.next ?_ (by assumption))))⟩
set_option maxHeartbeats 1000000 in
theorem impl_SameState (v v' : Value) (x y : TState) (bs bs' : List Nat) (w : World) (hx : Agg w v x bs) (hy : Agg w v' y bs') : Calls Try.prog 16 #[v, v'] w (Gives w (.bool (decide (x = y)))) := by
  obtain ⟨A0, nA0, cA0, sA0, A1, nA1, cA1, sA1, A2, nA2, cA2, sA2, A3, nA3, cA3, sA3, A5, nA5, cA5, sA5, A6, nA6, cA6, sA6, A7, nA7, cA7, sA7, rfl, rfl, w0, w1, w2, w3, w5, w6, w7⟩ := TState.agg hx
  obtain ⟨B0, nB0, cB0, sB0, B1, nB1, cB1, sB1, B2, nB2, cB2, sB2, B3, nB3, cB3, sB3, B5, nB5, cB5, sB5, B6, nB6, cB6, sB6, B7, nB7, cB7, sB7, rfl, rfl, v0, v1, v2, v3, v5, v6, v7⟩ := TState.agg hy
  have W0 := hid w0; have V0 := hid v0
  have W1 := hid w1; have V1 := hid v1
  have W2 := hid w2; have V2 := hid v2
  have W3 := hid w3; have V3 := hid v3
  have W5 := hid w5; have V5 := hid v5
  have W6 := hid w6; have V6 := hid v6
  have W7 := hid w7; have V7 := hid v7
  clear hx hy w0 v0 w1 v1 w2 v2 w3 v3 w5 v5 w6 v6 w7 v7
  by_cases q0 : x.problem = y.problem
  rotate_left
  · have g0 : decide (x.problem = y.problem) = false := by simp [q0]
    have Q := hid q0; clear q0
    go_enter Try.func16, Try.ntmps16
    go_wp2_with fail
    refine (impl_SameProblem _ _ x.problem y.problem _ _ _ (TProblem.mkAgg (Sl.below W0.out (by (repeat (first | (with_reducible exact Below.refl _ _) | ((with_reducible refine Below.set ?_ ?_ _); rotate_left; (simp <;> omega)) | (with_reducible refine Below.box_ ?_ _) | (with_reducible refine Below.next ?_ (by assumption)))))) (Sl.below W1.out (by (repeat (first | (with_reducible exact Below.refl _ _) | ((with_reducible refine Below.set ?_ ?_ _); rotate_left; (simp <;> omega)) | (with_reducible refine Below.box_ ?_ _) | (with_reducible refine Below.next ?_ (by assumption)))))) (Sl.below W2.out (by (repeat (first | (with_reducible exact Below.refl _ _) | ((with_reducible refine Below.set ?_ ?_ _); rotate_left; (simp <;> omega)) | (with_reducible refine Below.box_ ?_ _) | (with_reducible refine Below.next ?_ (by assumption)))))) (Sl.below W3.out (by (repeat (first | (with_reducible exact Below.refl _ _) | ((with_reducible refine Below.set ?_ ?_ _); rotate_left; (simp <;> omega)) | (with_reducible refine Below.box_ ?_ _) | (with_reducible refine Below.next ?_ (by assumption))))))) (TProblem.mkAgg (Sl.below V0.out (by (repeat (first | (with_reducible exact Below.refl _ _) | ((with_reducible refine Below.set ?_ ?_ _); rotate_left; (simp <;> omega)) | (with_reducible refine Below.box_ ?_ _) | (with_reducible refine Below.next ?_ (by assumption)))))) (Sl.below V1.out (by (repeat (first | (with_reducible exact Below.refl _ _) | ((with_reducible refine Below.set ?_ ?_ _); rotate_left; (simp <;> omega)) | (with_reducible refine Below.box_ ?_ _) | (with_reducible refine Below.next ?_ (by assumption)))))) (Sl.below V2.out (by (repeat (first | (with_reducible exact Below.refl _ _) | ((with_reducible refine Below.set ?_ ?_ _); rotate_left; (simp <;> omega)) | (with_reducible refine Below.box_ ?_ _) | (with_reducible refine Below.next ?_ (by assumption)))))) (Sl.below V3.out (by (repeat (first | (with_reducible exact Below.refl _ _) | ((with_reducible refine Below.set ?_ ?_ _); rotate_left; (simp <;> omega)) | (with_reducible refine Below.box_ ?_ _) | (with_reducible refine Below.next ?_ (by assumption)))))))).mono ?_
    rintro e u0 ⟨rfl, hb0⟩
    obtain ⟨hc0, hf0⟩ := bcell hb0
    have hz0 : w.heap.size < u0.heap.size ∧ w.heap.size + 1 < u0.heap.size := by have := hb0.size; (try simp at this); omega
    obtain ⟨hz0a, hz0b⟩ := hz0
    go_wp2
    go_ret
    exact ⟨ret_bool (by have : x ≠ y := fun e => Q.out (by rw [e]); simp [this]), by (repeat (first | (with_reducible exact Below.refl _ _) | ((with_reducible refine Below.set ?_ ?_ _); rotate_left; (simp <;> omega)) | (with_reducible refine Below.box_ ?_ _) | (with_reducible refine Below.next ?_ (by assumption))))⟩
  have g0 : decide (x.problem = y.problem) = true := by simp [q0]
  have Q0 := hid q0; clear q0
  by_cases q1 : x.part = y.part
  rotate_left
  · have g1 : decide (x.part = y.part) = false := by simp [q1]
    have Q := hid q1; clear q1
    go_enter Try.func16, Try.ntmps16
    go_wp2_with fail
    refine (impl_SameProblem _ _ x.problem y.problem _ _ _ (TProblem.mkAgg (Sl.below W0.out (by (repeat (first | (with_reducible exact Below.refl _ _) | ((with_reducible refine Below.set ?_ ?_ _); rotate_left; (simp <;> omega)) | (with_reducible refine Below.box_ ?_ _) | (with_reducible refine Below.next ?_ (by assumption)))))) (Sl.below W1.out (by (repeat (first | (with_reducible exact Below.refl _ _) | ((with_reducible refine Below.set ?_ ?_ _); rotate_left; (simp <;> omega)) | (with_reducible refine Below.box_ ?_ _) | (with_reducible refine Below.next ?_ (by assumption)))))) (Sl.below W2.out (by (repeat (first | (with_reducible exact Below.refl _ _) | ((with_reducible refine Below.set ?_ ?_ _); rotate_left; (simp <;> omega)) | (with_reducible refine Below.box_ ?_ _) | (with_reducible refine Below.next ?_ (by assumption)))))) (Sl.below W3.out (by (repeat (first | (with_reducible exact Below.refl _ _) | ((with_reducible refine Below.set ?_ ?_ _); rotate_left; (simp <;> omega)) | (with_reducible refine Below.box_ ?_ _) | (with_reducible refine Below.next ?_ (by assumption))))))) (TProblem.mkAgg (Sl.below V0.out (by (repeat (first | (with_reducible exact Below.refl _ _) | ((with_reducible refine Below.set ?_ ?_ _); rotate_left; (simp <;> omega)) | (with_reducible refine Below.box_ ?_ _) | (with_reducible refine Below.next ?_ (by assumption)))))) (Sl.below V1.out (by (repeat (first | (with_reducible exact Below.refl _ _) | ((with_reducible refine Below.set ?_ ?_ _); rotate_left; (simp <;> omega)) | (with_reducible refine Below.box_ ?_ _) | (with_reducible refine Below.next ?_ (by assumption)))))) (Sl.below V2.out (by (repeat (first | (with_reducible exact Below.refl _ _) | ((with_reducible refine Below.set ?_ ?_ _); rotate_left; (simp <;> omega)) | (with_reducible refine Below.box_ ?_ _) | (with_reducible refine Below.next ?_ (by assumption)))))) (Sl.below V3.out (by (repeat (first | (with_reducible exact Below.refl _ _) | ((with_reducible refine Below.set ?_ ?_ _); rotate_left; (simp <;> omega)) | (with_reducible refine Below.box_ ?_ _) | (with_reducible refine Below.next ?_ (by assumption)))))))).mono ?_
    rintro e u0 ⟨rfl, hb0⟩
    obtain ⟨hc0, hf0⟩ := bcell hb0
    have hz0 : w.heap.size < u0.heap.size ∧ w.heap.size + 1 < u0.heap.size := by have := hb0.size; (try simp at this); omega
    obtain ⟨hz0a, hz0b⟩ := hz0
    go_wp2_with fail
    refine (impl_RatEqual _ _ x.part y.part _ _ _ (TRat.mkAgg (Sl.below W5.out (by (repeat (first | (with_reducible exact Below.refl _ _) | ((with_reducible refine Below.set ?_ ?_ _); rotate_left; (simp <;> omega)) | (with_reducible refine Below.box_ ?_ _) | (with_reducible refine Below.next ?_ (by assumption)))))) (Sl.below W6.out (by (repeat (first | (with_reducible exact Below.refl _ _) | ((with_reducible refine Below.set ?_ ?_ _); rotate_left; (simp <;> omega)) | (with_reducible refine Below.box_ ?_ _) | (with_reducible refine Below.next ?_ (by assumption))))))) (TRat.mkAgg (Sl.below V5.out (by (repeat (first | (with_reducible exact Below.refl _ _) | ((with_reducible refine Below.set ?_ ?_ _); rotate_left; (simp <;> omega)) | (with_reducible refine Below.box_ ?_ _) | (with_reducible refine Below.next ?_ (by assumption)))))) (Sl.below V6.out (by (repeat (first | (with_reducible exact Below.refl _ _) | ((with_reducible refine Below.set ?_ ?_ _); rotate_left; (simp <;> omega)) | (with_reducible refine Below.box_ ?_ _) | (with_reducible refine Below.next ?_ (by assumption)))))))).mono ?_
    rintro e u1 ⟨rfl, hb1⟩
    obtain ⟨hc1, hf1⟩ := bcell hb1
    have hz1 : w.heap.size < u1.heap.size ∧ w.heap.size + 1 < u1.heap.size := by have := hb1.size; (try simp at this); omega
    obtain ⟨hz1a, hz1b⟩ := hz1
    go_wp2
    go_ret
    exact ⟨ret_bool (by have : x ≠ y := fun e => Q.out (by rw [e]); simp [this]), by (repeat (first | (with_reducible exact Below.refl _ _) | ((with_reducible refine Below.set ?_ ?_ _); rotate_left; (simp <;> omega)) | (with_reducible refine Below.box_ ?_ _) | (with_reducible refine Below.next ?_ (by assumption))))⟩
  have g1 : decide (x.part = y.part) = true := by simp [q1]
  have Q1 := hid q1; clear q1
  by_cases q2 : x.reports = y.reports
  rotate_left
  · have g2 : decide (x.reports = y.reports) = false := by simp [q2]
    have Q := hid q2; clear q2
    go_enter Try.func16, Try.ntmps16
    go_wp2_with fail
    refine (impl_SameProblem _ _ x.problem y.problem _ _ _ (TProblem.mkAgg (Sl.below W0.out (by (repeat (first | (with_reducible exact Below.refl _ _) | ((with_reducible refine Below.set ?_ ?_ _); rotate_left; (simp <;> omega)) | (with_reducible refine Below.box_ ?_ _) | (with_reducible refine Below.next ?_ (by assumption)))))) (Sl.below W1.out (by (repeat (first | (with_reducible exact Below.refl _ _) | ((with_reducible refine Below.set ?_ ?_ _); rotate_left; (simp <;> omega)) | (with_reducible refine Below.box_ ?_ _) | (with_reducible refine Below.next ?_ (by assumption)))))) (Sl.below W2.out (by (repeat (first | (with_reducible exact Below.refl _ _) | ((with_reducible refine Below.set ?_ ?_ _); rotate_left; (simp <;> omega)) | (with_reducible refine Below.box_ ?_ _) | (with_reducible refine Below.next ?_ (by assumption)))))) (Sl.below W3.out (by (repeat (first | (with_reducible exact Below.refl _ _) | ((with_reducible refine Below.set ?_ ?_ _); rotate_left; (simp <;> omega)) | (with_reducible refine Below.box_ ?_ _) | (with_reducible refine Below.next ?_ (by assumption))))))) (TProblem.mkAgg (Sl.below V0.out (by (repeat (first | (with_reducible exact Below.refl _ _) | ((with_reducible refine Below.set ?_ ?_ _); rotate_left; (simp <;> omega)) | (with_reducible refine Below.box_ ?_ _) | (with_reducible refine Below.next ?_ (by assumption)))))) (Sl.below V1.out (by (repeat (first | (with_reducible exact Below.refl _ _) | ((with_reducible refine Below.set ?_ ?_ _); rotate_left; (simp <;> omega)) | (with_reducible refine Below.box_ ?_ _) | (with_reducible refine Below.next ?_ (by assumption)))))) (Sl.below V2.out (by (repeat (first | (with_reducible exact Below.refl _ _) | ((with_reducible refine Below.set ?_ ?_ _); rotate_left; (simp <;> omega)) | (with_reducible refine Below.box_ ?_ _) | (with_reducible refine Below.next ?_ (by assumption)))))) (Sl.below V3.out (by (repeat (first | (with_reducible exact Below.refl _ _) | ((with_reducible refine Below.set ?_ ?_ _); rotate_left; (simp <;> omega)) | (with_reducible refine Below.box_ ?_ _) | (with_reducible refine Below.next ?_ (by assumption)))))))).mono ?_
    rintro e u0 ⟨rfl, hb0⟩
    obtain ⟨hc0, hf0⟩ := bcell hb0
    have hz0 : w.heap.size < u0.heap.size ∧ w.heap.size + 1 < u0.heap.size := by have := hb0.size; (try simp at this); omega
    obtain ⟨hz0a, hz0b⟩ := hz0
    go_wp2_with fail
    refine (impl_RatEqual _ _ x.part y.part _ _ _ (TRat.mkAgg (Sl.below W5.out (by (repeat (first | (with_reducible exact Below.refl _ _) | ((with_reducible refine Below.set ?_ ?_ _); rotate_left; (simp <;> omega)) | (with_reducible refine Below.box_ ?_ _) | (with_reducible refine Below.next ?_ (by assumption)))))) (Sl.below W6.out (by (repeat (first | (with_reducible exact Below.refl _ _) | ((with_reducible refine Below.set ?_ ?_ _); rotate_left; (simp <;> omega)) | (with_reducible refine Below.box_ ?_ _) | (with_reducible refine Below.next ?_ (by assumption))))))) (TRat.mkAgg (Sl.below V5.out (by (repeat (first | (with_reducible exact Below.refl _ _) | ((with_reducible refine Below.set ?_ ?_ _); rotate_left; (simp <;> omega)) | (with_reducible refine Below.box_ ?_ _) | (with_reducible refine Below.next ?_ (by assumption)))))) (Sl.below V6.out (by (repeat (first | (with_reducible exact Below.refl _ _) | ((with_reducible refine Below.set ?_ ?_ _); rotate_left; (simp <;> omega)) | (with_reducible refine Below.box_ ?_ _) | (with_reducible refine Below.next ?_ (by assumption)))))))).mono ?_
    rintro e u1 ⟨rfl, hb1⟩
    obtain ⟨hc1, hf1⟩ := bcell hb1
    have hz1 : w.heap.size < u1.heap.size ∧ w.heap.size + 1 < u1.heap.size := by have := hb1.size; (try simp at this); omega
    obtain ⟨hz1a, hz1b⟩ := hz1
    go_wp2_with fail
    refine (slices_EqualFunc_impl_Report_impl_Report_impl_Report_impl_Report _ _ _ _ _ _ x.reports y.reports _ _ _ (Sl.below W7.out (by (repeat (first | (with_reducible exact Below.refl _ _) | ((with_reducible refine Below.set ?_ ?_ _); rotate_left; (simp <;> omega)) | (with_reducible refine Below.box_ ?_ _) | (with_reducible refine Below.next ?_ (by assumption)))))) (Sl.below V7.out (by (repeat (first | (with_reducible exact Below.refl _ _) | ((with_reducible refine Below.set ?_ ?_ _); rotate_left; (simp <;> omega)) | (with_reducible refine Below.box_ ?_ _) | (with_reducible refine Below.next ?_ (by assumption))))))).mono ?_
    rintro e u2 ⟨rfl, hb2⟩
    obtain ⟨hc2, hf2⟩ := bcell hb2
    have hz2 : w.heap.size < u2.heap.size ∧ w.heap.size + 1 < u2.heap.size := by have := hb2.size; (try simp at this); omega
    obtain ⟨hz2a, hz2b⟩ := hz2
    go_wp2
    go_ret
    exact ⟨ret_bool (by have : x ≠ y := fun e => Q.out (by rw [e]); simp [this]), by (repeat (first | (with_reducible exact Below.refl _ _) | ((with_reducible refine Below.set ?_ ?_ _); rotate_left; (simp <;> omega)) | (with_reducible refine Below.box_ ?_ _) | (with_reducible refine Below.next ?_ (by assumption))))⟩
  have g2 : decide (x.reports = y.reports) = true := by simp [q2]
  have Q2 := hid q2; clear q2
  go_enter Try.func16, Try.ntmps16
  go_wp2_with fail
  refine (impl_SameProblem _ _ x.problem y.problem _ _ _ (TProblem.mkAgg (Sl.below W0.out (by (repeat (first | (with_reducible exact Below.refl _ _) | ((with_reducible refine Below.set ?_ ?_ _); rotate_left; (simp <;> omega)) | (with_reducible refine Below.box_ ?_ _) | (with_reducible refine Below.next ?_ (by assumption)))))) (Sl.below W1.out (by (repeat (first | (with_reducible exact Below.refl _ _) | ((with_reducible refine Below.set ?_ ?_ _); rotate_left; (simp <;> omega)) | (with_reducible refine Below.box_ ?_ _) | (with_reducible refine Below.next ?_ (by assumption)))))) (Sl.below W2.out (by (repeat (first | (with_reducible exact Below.refl _ _) | ((with_reducible refine Below.set ?_ ?_ _); rotate_left; (simp <;> omega)) | (with_reducible refine Below.box_ ?_ _) | (with_reducible refine Below.next ?_ (by assumption)))))) (Sl.below W3.out (by (repeat (first | (with_reducible exact Below.refl _ _) | ((with_reducible refine Below.set ?_ ?_ _); rotate_left; (simp <;> omega)) | (with_reducible refine Below.box_ ?_ _) | (with_reducible refine Below.next ?_ (by assumption))))))) (TProblem.mkAgg (Sl.below V0.out (by (repeat (first | (with_reducible exact Below.refl _ _) | ((with_reducible refine Below.set ?_ ?_ _); rotate_left; (simp <;> omega)) | (with_reducible refine Below.box_ ?_ _) | (with_reducible refine Below.next ?_ (by assumption)))))) (Sl.below V1.out (by (repeat (first | (with_reducible exact Below.refl _ _) | ((with_reducible refine Below.set ?_ ?_ _); rotate_left; (simp <;> omega)) | (with_reducible refine Below.box_ ?_ _) | (with_reducible refine Below.next ?_ (by assumption)))))) (Sl.below V2.out (by (repeat (first | (with_reducible exact Below.refl _ _) | ((with_reducible refine Below.set ?_ ?_ _); rotate_left; (simp <;> omega)) | (with_reducible refine Below.box_ ?_ _) | (with_reducible refine Below.next ?_ (by assumption)))))) (Sl.below V3.out (by (repeat (first | (with_reducible exact Below.refl _ _) | ((with_reducible refine Below.set ?_ ?_ _); rotate_left; (simp <;> omega)) | (with_reducible refine Below.box_ ?_ _) | (with_reducible refine Below.next ?_ (by assumption)))))))).mono ?_
  rintro e u0 ⟨rfl, hb0⟩
  obtain ⟨hc0, hf0⟩ := bcell hb0
  have hz0 : w.heap.size < u0.heap.size ∧ w.heap.size + 1 < u0.heap.size := by have := hb0.size; (try simp at this); omega
  obtain ⟨hz0a, hz0b⟩ := hz0
  go_wp2_with fail
  refine (impl_RatEqual _ _ x.part y.part _ _ _ (TRat.mkAgg (Sl.below W5.out (by (repeat (first | (with_reducible exact Below.refl _ _) | ((with_reducible refine Below.set ?_ ?_ _); rotate_left; (simp <;> omega)) | (with_reducible refine Below.box_ ?_ _) | (with_reducible refine Below.next ?_ (by assumption)))))) (Sl.below W6.out (by (repeat (first | (with_reducible exact Below.refl _ _) | ((with_reducible refine Below.set ?_ ?_ _); rotate_left; (simp <;> omega)) | (with_reducible refine Below.box_ ?_ _) | (with_reducible refine Below.next ?_ (by assumption))))))) (TRat.mkAgg (Sl.below V5.out (by (repeat (first | (with_reducible exact Below.refl _ _) | ((with_reducible refine Below.set ?_ ?_ _); rotate_left; (simp <;> omega)) | (with_reducible refine Below.box_ ?_ _) | (with_reducible refine Below.next ?_ (by assumption)))))) (Sl.below V6.out (by (repeat (first | (with_reducible exact Below.refl _ _) | ((with_reducible refine Below.set ?_ ?_ _); rotate_left; (simp <;> omega)) | (with_reducible refine Below.box_ ?_ _) | (with_reducible refine Below.next ?_ (by assumption)))))))).mono ?_
  rintro e u1 ⟨rfl, hb1⟩
  obtain ⟨hc1, hf1⟩ := bcell hb1
  have hz1 : w.heap.size < u1.heap.size ∧ w.heap.size + 1 < u1.heap.size := by have := hb1.size; (try simp at this); omega
  obtain ⟨hz1a, hz1b⟩ := hz1
  go_wp2_with fail
  refine (slices_EqualFunc_impl_Report_impl_Report_impl_Report_impl_Report _ _ _ _ _ _ x.reports y.reports _ _ _ (Sl.below W7.out (by (repeat (first | (with_reducible exact Below.refl _ _) | ((with_reducible refine Below.set ?_ ?_ _); rotate_left; (simp <;> omega)) | (with_reducible refine Below.box_ ?_ _) | (with_reducible refine Below.next ?_ (by assumption)))))) (Sl.below V7.out (by (repeat (first | (with_reducible exact Below.refl _ _) | ((with_reducible refine Below.set ?_ ?_ _); rotate_left; (simp <;> omega)) | (with_reducible refine Below.box_ ?_ _) | (with_reducible refine Below.next ?_ (by assumption))))))).mono ?_
  rintro e u2 ⟨rfl, hb2⟩
  obtain ⟨hc2, hf2⟩ := bcell hb2
  have hz2 : w.heap.size < u2.heap.size ∧ w.heap.size + 1 < u2.heap.size := by have := hb2.size; (try simp at this); omega
  obtain ⟨hz2a, hz2b⟩ := hz2
  go_wp2
  go_ret
  have heq : x = y := @ext_TState x y Q0.out Q1.out Q2.out
  exact ⟨ret_bool (by simp [heq]), by (repeat (first | (with_reducible exact Below.refl _ _) | ((with_reducible refine Below.set ?_ ?_ _); rotate_left; (simp <;> omega)) | (with_reducible refine Below.box_ ?_ _) | (with_reducible refine Below.next ?_ (by assumption))))⟩
set_option maxHeartbeats 1000000 in
theorem spec_SameProblem (v v' : Value) (x y : TProblem) (bs bs' : List Nat) (w : World) (hx : Agg w v x bs) (hy : Agg w v' y bs') : Calls Try.prog 25 #[v, v'] w (Gives w (.bool (decide (x = y)))) := by
  obtain ⟨A0, nA0, cA0, sA0, A1, nA1, cA1, sA1, A2, nA2, cA2, sA2, A3, nA3, cA3, sA3, rfl, rfl, w0, w1, w2, w3⟩ := TProblem.agg hx
  obtain ⟨B0, nB0, cB0, sB0, B1, nB1, cB1, sB1, B2, nB2, cB2, sB2, B3, nB3, cB3, sB3, rfl, rfl, v0, v1, v2, v3⟩ := TProblem.agg hy
  have W0 := hid w0; have V0 := hid v0
  have W1 := hid w1; have V1 := hid v1
  have W2 := hid w2; have V2 := hid v2
  have W3 := hid w3; have V3 := hid v3
  clear hx hy w0 v0 w1 v1 w2 v2 w3 v3
  by_cases q0 : x.mesh = y.mesh
  rotate_left
  · have g0 : decide (x.mesh = y.mesh) = false := by simp [q0]
    have Q := hid q0; clear q0
    go_enter Try.func25, Try.ntmps25
    go_wp2_with fail
    refine (spec_SameMesh _ _ x.mesh y.mesh _ _ _ (TMesh.mkAgg (Sl.below W0.out (by (repeat (first | (with_reducible exact Below.refl _ _) | ((with_reducible refine Below.set ?_ ?_ _); rotate_left; (simp <;> omega)) | (with_reducible refine Below.box_ ?_ _) | (with_reducible refine Below.next ?_ (by assumption)))))) (Sl.below W1.out (by (repeat (first | (with_reducible exact Below.refl _ _) | ((with_reducible refine Below.set ?_ ?_ _); rotate_left; (simp <;> omega)) | (with_reducible refine Below.box_ ?_ _) | (with_reducible refine Below.next ?_ (by assumption))))))) (TMesh.mkAgg (Sl.below V0.out (by (repeat (first | (with_reducible exact Below.refl _ _) | ((with_reducible refine Below.set ?_ ?_ _); rotate_left; (simp <;> omega)) | (with_reducible refine Below.box_ ?_ _) | (with_reducible refine Below.next ?_ (by assumption)))))) (Sl.below V1.out (by (repeat (first | (with_reducible exact Below.refl _ _) | ((with_reducible refine Below.set ?_ ?_ _); rotate_left; (simp <;> omega)) | (with_reducible refine Below.box_ ?_ _) | (with_reducible refine Below.next ?_ (by assumption)))))))).mono ?_
    rintro e u0 ⟨rfl, hb0⟩
    obtain ⟨hc0, hf0⟩ := bcell hb0
    have hz0 : w.heap.size < u0.heap.size ∧ w.heap.size + 1 < u0.heap.size := by have := hb0.size; (try simp at this); omega
    obtain ⟨hz0a, hz0b⟩ := hz0
    go_wp2
    go_ret
    exact ⟨ret_bool (by have : x ≠ y := fun e => Q.out (by rw [e]); simp [this]), by (repeat (first | (with_reducible exact Below.refl _ _) | ((with_reducible refine Below.set ?_ ?_ _); rotate_left; (simp <;> omega)) | (with_reducible refine Below.box_ ?_ _) | (with_reducible refine Below.next ?_ (by assumption))))⟩
  have g0 : decide (x.mesh = y.mesh) = true := by simp [q0]
  have Q0 := hid q0; clear q0
  by_cases q1 : x.diffusion = y.diffusion
  rotate_left
  · have g1 : decide (x.diffusion = y.diffusion) = false := by simp [q1]
    have Q := hid q1; clear q1
    go_enter Try.func25, Try.ntmps25
    go_wp2_with fail
    refine (spec_SameMesh _ _ x.mesh y.mesh _ _ _ (TMesh.mkAgg (Sl.below W0.out (by (repeat (first | (with_reducible exact Below.refl _ _) | ((with_reducible refine Below.set ?_ ?_ _); rotate_left; (simp <;> omega)) | (with_reducible refine Below.box_ ?_ _) | (with_reducible refine Below.next ?_ (by assumption)))))) (Sl.below W1.out (by (repeat (first | (with_reducible exact Below.refl _ _) | ((with_reducible refine Below.set ?_ ?_ _); rotate_left; (simp <;> omega)) | (with_reducible refine Below.box_ ?_ _) | (with_reducible refine Below.next ?_ (by assumption))))))) (TMesh.mkAgg (Sl.below V0.out (by (repeat (first | (with_reducible exact Below.refl _ _) | ((with_reducible refine Below.set ?_ ?_ _); rotate_left; (simp <;> omega)) | (with_reducible refine Below.box_ ?_ _) | (with_reducible refine Below.next ?_ (by assumption)))))) (Sl.below V1.out (by (repeat (first | (with_reducible exact Below.refl _ _) | ((with_reducible refine Below.set ?_ ?_ _); rotate_left; (simp <;> omega)) | (with_reducible refine Below.box_ ?_ _) | (with_reducible refine Below.next ?_ (by assumption)))))))).mono ?_
    rintro e u0 ⟨rfl, hb0⟩
    obtain ⟨hc0, hf0⟩ := bcell hb0
    have hz0 : w.heap.size < u0.heap.size ∧ w.heap.size + 1 < u0.heap.size := by have := hb0.size; (try simp at this); omega
    obtain ⟨hz0a, hz0b⟩ := hz0
    go_wp2_with fail
    refine (spec_l13Same _ _ _ _ _ _ x.diffusion y.diffusion _ _ _ (Sl.below W2.out (by (repeat (first | (with_reducible exact Below.refl _ _) | ((with_reducible refine Below.set ?_ ?_ _); rotate_left; (simp <;> omega)) | (with_reducible refine Below.box_ ?_ _) | (with_reducible refine Below.next ?_ (by assumption)))))) (Sl.below V2.out (by (repeat (first | (with_reducible exact Below.refl _ _) | ((with_reducible refine Below.set ?_ ?_ _); rotate_left; (simp <;> omega)) | (with_reducible refine Below.box_ ?_ _) | (with_reducible refine Below.next ?_ (by assumption))))))).mono ?_
    rintro e u1 ⟨rfl, hb1⟩
    obtain ⟨hc1, hf1⟩ := bcell hb1
    have hz1 : w.heap.size < u1.heap.size ∧ w.heap.size + 1 < u1.heap.size := by have := hb1.size; (try simp at this); omega
    obtain ⟨hz1a, hz1b⟩ := hz1
    go_wp2
    go_ret
    exact ⟨ret_bool (by have : x ≠ y := fun e => Q.out (by rw [e]); simp [this]), by (repeat (first | (with_reducible exact Below.refl _ _) | ((with_reducible refine Below.set ?_ ?_ _); rotate_left; (simp <;> omega)) | (with_reducible refine Below.box_ ?_ _) | (with_reducible refine Below.next ?_ (by assumption))))⟩
  have g1 : decide (x.diffusion = y.diffusion) = true := by simp [q1]
  have Q1 := hid q1; clear q1
  by_cases q2 : x.source = y.source
  rotate_left
  · have g2 : decide (x.source = y.source) = false := by simp [q2]
    have Q := hid q2; clear q2
    go_enter Try.func25, Try.ntmps25
    go_wp2_with fail
    refine (spec_SameMesh _ _ x.mesh y.mesh _ _ _ (TMesh.mkAgg (Sl.below W0.out (by (repeat (first | (with_reducible exact Below.refl _ _) | ((with_reducible refine Below.set ?_ ?_ _); rotate_left; (simp <;> omega)) | (with_reducible refine Below.box_ ?_ _) | (with_reducible refine Below.next ?_ (by assumption)))))) (Sl.below W1.out (by (repeat (first | (with_reducible exact Below.refl _ _) | ((with_reducible refine Below.set ?_ ?_ _); rotate_left; (simp <;> omega)) | (with_reducible refine Below.box_ ?_ _) | (with_reducible refine Below.next ?_ (by assumption))))))) (TMesh.mkAgg (Sl.below V0.out (by (repeat (first | (with_reducible exact Below.refl _ _) | ((with_reducible refine Below.set ?_ ?_ _); rotate_left; (simp <;> omega)) | (with_reducible refine Below.box_ ?_ _) | (with_reducible refine Below.next ?_ (by assumption)))))) (Sl.below V1.out (by (repeat (first | (with_reducible exact Below.refl _ _) | ((with_reducible refine Below.set ?_ ?_ _); rotate_left; (simp <;> omega)) | (with_reducible refine Below.box_ ?_ _) | (with_reducible refine Below.next ?_ (by assumption)))))))).mono ?_
    rintro e u0 ⟨rfl, hb0⟩
    obtain ⟨hc0, hf0⟩ := bcell hb0
    have hz0 : w.heap.size < u0.heap.size ∧ w.heap.size + 1 < u0.heap.size := by have := hb0.size; (try simp at this); omega
    obtain ⟨hz0a, hz0b⟩ := hz0
    go_wp2_with fail
    refine (spec_l13Same _ _ _ _ _ _ x.diffusion y.diffusion _ _ _ (Sl.below W2.out (by (repeat (first | (with_reducible exact Below.refl _ _) | ((with_reducible refine Below.set ?_ ?_ _); rotate_left; (simp <;> omega)) | (with_reducible refine Below.box_ ?_ _) | (with_reducible refine Below.next ?_ (by assumption)))))) (Sl.below V2.out (by (repeat (first | (with_reducible exact Below.refl _ _) | ((with_reducible refine Below.set ?_ ?_ _); rotate_left; (simp <;> omega)) | (with_reducible refine Below.box_ ?_ _) | (with_reducible refine Below.next ?_ (by assumption))))))).mono ?_
    rintro e u1 ⟨rfl, hb1⟩
    obtain ⟨hc1, hf1⟩ := bcell hb1
    have hz1 : w.heap.size < u1.heap.size ∧ w.heap.size + 1 < u1.heap.size := by have := hb1.size; (try simp at this); omega
    obtain ⟨hz1a, hz1b⟩ := hz1
    go_wp2_with fail
    refine (spec_l13Same _ _ _ _ _ _ x.source y.source _ _ _ (Sl.below W3.out (by (repeat (first | (with_reducible exact Below.refl _ _) | ((with_reducible refine Below.set ?_ ?_ _); rotate_left; (simp <;> omega)) | (with_reducible refine Below.box_ ?_ _) | (with_reducible refine Below.next ?_ (by assumption)))))) (Sl.below V3.out (by (repeat (first | (with_reducible exact Below.refl _ _) | ((with_reducible refine Below.set ?_ ?_ _); rotate_left; (simp <;> omega)) | (with_reducible refine Below.box_ ?_ _) | (with_reducible refine Below.next ?_ (by assumption))))))).mono ?_
    rintro e u2 ⟨rfl, hb2⟩
    obtain ⟨hc2, hf2⟩ := bcell hb2
    have hz2 : w.heap.size < u2.heap.size ∧ w.heap.size + 1 < u2.heap.size := by have := hb2.size; (try simp at this); omega
    obtain ⟨hz2a, hz2b⟩ := hz2
    go_wp2
    go_ret
    exact ⟨ret_bool (by have : x ≠ y := fun e => Q.out (by rw [e]); simp [this]), by (repeat (first | (with_reducible exact Below.refl _ _) | ((with_reducible refine Below.set ?_ ?_ _); rotate_left; (simp <;> omega)) | (with_reducible refine Below.box_ ?_ _) | (with_reducible refine Below.next ?_ (by assumption))))⟩
  have g2 : decide (x.source = y.source) = true := by simp [q2]
  have Q2 := hid q2; clear q2
  go_enter Try.func25, Try.ntmps25
  go_wp2_with fail
  refine (spec_SameMesh _ _ x.mesh y.mesh _ _ _ (TMesh.mkAgg (Sl.below W0.out (by (repeat (first | (with_reducible exact Below.refl _ _) | ((with_reducible refine Below.set ?_ ?_ _); rotate_left; (simp <;> omega)) | (with_reducible refine Below.box_ ?_ _) | (with_reducible refine Below.next ?_ (by assumption)))))) (Sl.below W1.out (by (repeat (first | (with_reducible exact Below.refl _ _) | ((with_reducible refine Below.set ?_ ?_ _); rotate_left; (simp <;> omega)) | (with_reducible refine Below.box_ ?_ _) | (with_reducible refine Below.next ?_ (by assumption))))))) (TMesh.mkAgg (Sl.below V0.out (by (repeat (first | (with_reducible exact Below.refl _ _) | ((with_reducible refine Below.set ?_ ?_ _); rotate_left; (simp <;> omega)) | (with_reducible refine Below.box_ ?_ _) | (with_reducible refine Below.next ?_ (by assumption)))))) (Sl.below V1.out (by (repeat (first | (with_reducible exact Below.refl _ _) | ((with_reducible refine Below.set ?_ ?_ _); rotate_left; (simp <;> omega)) | (with_reducible refine Below.box_ ?_ _) | (with_reducible refine Below.next ?_ (by assumption)))))))).mono ?_
  rintro e u0 ⟨rfl, hb0⟩
  obtain ⟨hc0, hf0⟩ := bcell hb0
  have hz0 : w.heap.size < u0.heap.size ∧ w.heap.size + 1 < u0.heap.size := by have := hb0.size; (try simp at this); omega
  obtain ⟨hz0a, hz0b⟩ := hz0
  go_wp2_with fail
  refine (spec_l13Same _ _ _ _ _ _ x.diffusion y.diffusion _ _ _ (Sl.below W2.out (by (repeat (first | (with_reducible exact Below.refl _ _) | ((with_reducible refine Below.set ?_ ?_ _); rotate_left; (simp <;> omega)) | (with_reducible refine Below.box_ ?_ _) | (with_reducible refine Below.next ?_ (by assumption)))))) (Sl.below V2.out (by (repeat (first | (with_reducible exact Below.refl _ _) | ((with_reducible refine Below.set ?_ ?_ _); rotate_left; (simp <;> omega)) | (with_reducible refine Below.box_ ?_ _) | (with_reducible refine Below.next ?_ (by assumption))))))).mono ?_
  rintro e u1 ⟨rfl, hb1⟩
  obtain ⟨hc1, hf1⟩ := bcell hb1
  have hz1 : w.heap.size < u1.heap.size ∧ w.heap.size + 1 < u1.heap.size := by have := hb1.size; (try simp at this); omega
  obtain ⟨hz1a, hz1b⟩ := hz1
  go_wp2_with fail
  refine (spec_l13Same _ _ _ _ _ _ x.source y.source _ _ _ (Sl.below W3.out (by (repeat (first | (with_reducible exact Below.refl _ _) | ((with_reducible refine Below.set ?_ ?_ _); rotate_left; (simp <;> omega)) | (with_reducible refine Below.box_ ?_ _) | (with_reducible refine Below.next ?_ (by assumption)))))) (Sl.below V3.out (by (repeat (first | (with_reducible exact Below.refl _ _) | ((with_reducible refine Below.set ?_ ?_ _); rotate_left; (simp <;> omega)) | (with_reducible refine Below.box_ ?_ _) | (with_reducible refine Below.next ?_ (by assumption))))))).mono ?_
  rintro e u2 ⟨rfl, hb2⟩
  obtain ⟨hc2, hf2⟩ := bcell hb2
  have hz2 : w.heap.size < u2.heap.size ∧ w.heap.size + 1 < u2.heap.size := by have := hb2.size; (try simp at this); omega
  obtain ⟨hz2a, hz2b⟩ := hz2
  go_wp2
  go_ret
  have heq : x = y := @ext_TProblem x y Q0.out Q1.out Q2.out
  exact ⟨ret_bool (by simp [heq]), by (repeat (first | (with_reducible exact Below.refl _ _) | ((with_reducible refine Below.set ?_ ?_ _); rotate_left; (simp <;> omega)) | (with_reducible refine Below.box_ ?_ _) | (with_reducible refine Below.next ?_ (by assumption))))⟩
end Go.Proofs.Ytmhcfdipnofohaa.X
