/- FnExactGoalHolds: for every input, the program's GoalHolds returns what the reference's returns: the law returns true, and its arguments read as before. No condition. Written by gen_exact.py. -/
import Derived.Test.YthlpjpcnpcclhaaPL
import Derived.Test.YthlpjpcnpcclhaaP2
import Derived.Test.YthlpjpcnpcclhaaXGoal
import Derived.WalkLawsBesides
import Derived.ProofKit
import Derived.OpenShut
namespace Go.Proofs.Ythlpjpcnpcclhaa.fnExactGoalHolds
open Go.ChangeShapes Go.WideShapes Go.ChangeAt Go.RowKit Go.XB Go.Proofs.Ythlpjpcnpcclhaa.X
attribute [local go_sem] fillBy opAt deps depOf Region.wanted yielded
attribute [local simp] deps depOf MP.eq MP.agg MP.sl Facts

set_option maxHeartbeats 4000000 in
theorem walk (v0 : Value) (v1 : Value) (x0 : TGoal) (x1 : TRat) (b0 : List Nat) (b1 : List Nat) (w : World) (h0 : Agg w v0 x0 b0) (h1 : Agg w v1 x1 b1) :
    Calls Try.prog 4 #[v0, v1] w (Gives w (.bool true)) := by
  have H0 := hid h0
  have H1 := hid h1
  obtain ⟨P0x1, nP0x1, cP0x1, sP0x1, P0x2, nP0x2, cP0x2, sP0x2, P0x4, nP0x4, cP0x4, sP0x4, P0x5, nP0x5, cP0x5, sP0x5, rfl, rfl, w0x1, w0x2, w0x4, w0x5⟩ := TGoal.agg h0
  clear w0x1 w0x2 w0x4 w0x5
  obtain ⟨P1x1, nP1x1, cP1x1, sP1x1, P1x2, nP1x2, cP1x2, sP1x2, rfl, rfl, w1x1, w1x2⟩ := TRat.agg h1
  clear w1x1 w1x2
  clear h0 h1
  have k0a : (0 : Int) ≤ 1048576 := by omega
  have m0 : (1048576 : Int) ≤ 1048576 := by omega
  rcases minus_cases 1048576 (x0.cnt) with ⟨k1, e1, l1⟩ | ⟨k1, e1, l1⟩
  · clear e1 l1
    go_enter Try.func4, Try.ntmps4
    go_wp2_with fail
    refine (laws_szGoal _ x0 _ 1048576 _ (Agg.below H0.out (by (repeat (first | (with_reducible exact Below.refl _ _) | ((with_reducible refine Below.set ?_ ?_ _); rotate_left; (simp <;> omega)) | (with_reducible refine Below.box_ ?_ _) | (with_reducible refine Below.next ?_ (by assumption)))))) k0a m0).mono ?_
    rintro e us0 ⟨rfl, hbs0⟩
    obtain ⟨hcs0, hfs0⟩ := bcell hbs0
    have hzs0 : w.heap.size < us0.heap.size ∧ w.heap.size + 1 < us0.heap.size := by have := hbs0.size; (try simp at this); omega
    obtain ⟨hzs0_0, hzs0_1⟩ := hzs0
    go_wp2
    go_ret
    exact ⟨rfl, by (repeat (first | (with_reducible exact Below.refl _ _) | ((with_reducible refine Below.set ?_ ?_ _); rotate_left; (simp <;> omega)) | (with_reducible refine Below.box_ ?_ _) | (with_reducible refine Below.next ?_ (by assumption))))⟩
  have q0 : x0.cnt ≤ 1048576 := by omega
  have k1a : 0 ≤ (minus 1048576 (x0.cnt)) := k1
  have m1 : (minus 1048576 (x0.cnt)) ≤ 1048576 := by omega
  clear e1 l1
  rcases minus_cases (minus 1048576 (x0.cnt)) (x1.cnt) with ⟨k2, e1, l1⟩ | ⟨k2, e1, l1⟩
  · clear e1 l1
    go_enter Try.func4, Try.ntmps4
    go_wp2_with fail
    refine (laws_szGoal _ x0 _ 1048576 _ (Agg.below H0.out (by (repeat (first | (with_reducible exact Below.refl _ _) | ((with_reducible refine Below.set ?_ ?_ _); rotate_left; (simp <;> omega)) | (with_reducible refine Below.box_ ?_ _) | (with_reducible refine Below.next ?_ (by assumption)))))) k0a m0).mono ?_
    rintro e us0 ⟨rfl, hbs0⟩
    obtain ⟨hcs0, hfs0⟩ := bcell hbs0
    have hzs0 : w.heap.size < us0.heap.size ∧ w.heap.size + 1 < us0.heap.size := by have := hbs0.size; (try simp at this); omega
    obtain ⟨hzs0_0, hzs0_1⟩ := hzs0
    go_wp2_with fail
    refine (laws_szRat _ x1 _ (minus 1048576 (x0.cnt)) _ (Agg.below H1.out (by (repeat (first | (with_reducible exact Below.refl _ _) | ((with_reducible refine Below.set ?_ ?_ _); rotate_left; (simp <;> omega)) | (with_reducible refine Below.box_ ?_ _) | (with_reducible refine Below.next ?_ (by assumption)))))) k1a m1).mono ?_
    rintro e us1 ⟨rfl, hbs1⟩
    obtain ⟨hcs1, hfs1⟩ := bcell hbs1
    have hzs1 : w.heap.size < us1.heap.size ∧ w.heap.size + 1 < us1.heap.size := by have := hbs1.size; (try simp at this); omega
    obtain ⟨hzs1_0, hzs1_1⟩ := hzs1
    go_wp2
    go_ret
    exact ⟨rfl, by (repeat (first | (with_reducible exact Below.refl _ _) | ((with_reducible refine Below.set ?_ ?_ _); rotate_left; (simp <;> omega)) | (with_reducible refine Below.box_ ?_ _) | (with_reducible refine Below.next ?_ (by assumption))))⟩
  have q1 : x1.cnt ≤ 1048576 := by omega
  have k2a : 0 ≤ (minus (minus 1048576 (x0.cnt)) (x1.cnt)) := k2
  have m2 : (minus (minus 1048576 (x0.cnt)) (x1.cnt)) ≤ 1048576 := by omega
  clear e1 l1
  go_enter Try.func4, Try.ntmps4
  go_wp2_with fail
  refine (laws_szGoal _ x0 _ 1048576 _ (Agg.below H0.out (by (repeat (first | (with_reducible exact Below.refl _ _) | ((with_reducible refine Below.set ?_ ?_ _); rotate_left; (simp <;> omega)) | (with_reducible refine Below.box_ ?_ _) | (with_reducible refine Below.next ?_ (by assumption)))))) k0a m0).mono ?_
  rintro e us0 ⟨rfl, hbs0⟩
  obtain ⟨hcs0, hfs0⟩ := bcell hbs0
  have hzs0 : w.heap.size < us0.heap.size ∧ w.heap.size + 1 < us0.heap.size := by have := hbs0.size; (try simp at this); omega
  obtain ⟨hzs0_0, hzs0_1⟩ := hzs0
  go_wp2_with fail
  refine (laws_szRat _ x1 _ (minus 1048576 (x0.cnt)) _ (Agg.below H1.out (by (repeat (first | (with_reducible exact Below.refl _ _) | ((with_reducible refine Below.set ?_ ?_ _); rotate_left; (simp <;> omega)) | (with_reducible refine Below.box_ ?_ _) | (with_reducible refine Below.next ?_ (by assumption)))))) k1a m1).mono ?_
  rintro e us1 ⟨rfl, hbs1⟩
  obtain ⟨hcs1, hfs1⟩ := bcell hbs1
  have hzs1 : w.heap.size < us1.heap.size ∧ w.heap.size + 1 < us1.heap.size := by have := hbs1.size; (try simp at this); omega
  obtain ⟨hzs1_0, hzs1_1⟩ := hzs1
  go_wp2_with fail
  refine wp_region_walk (by kernel_rfl) (by kernel_rfl) (by kernel_rfl) ?_
  apply walkM_eq
  case h =>
    intro yq zq wq hC hd
    obtain ⟨hcq, hfq⟩ := bcell hC
    simp at hd
    refine ⟨by go_simp; done, ?_⟩
    go_simp
    first | (go_ints; exact rfl) | (go_ints; rw [if_pos (by omega)]; try exact rfl) | exact rfl | (rw [if_pos (by omega)]; try exact rfl)
  refine walkM_call (MP.agg x0) ?_ ?_
  · intro yq zq wq hC hd
    obtain ⟨hcq, hfq⟩ := bcell hC
    simp at hd
    refine ⟨by go_simp; done, ?_⟩
    apply Exists.intro
    apply Exists.intro
    constructor
    · go_simp
      exact ⟨rfl, rfl⟩
    · exact gives_agg (laws_toGoal _ x0 _ _ (Agg.below H0.out (by (repeat (first | (with_reducible exact Below.refl _ _) | ((with_reducible refine Below.set ?_ ?_ _); rotate_left; (simp <;> omega)) | (with_reducible refine Below.box_ ?_ _) | (with_reducible refine Below.next ?_ (by assumption)))))) q0)
  apply walkM_eq
  case h =>
    intro yq zq wq hC hd
    obtain ⟨hcq, hfq⟩ := bcell hC
    simp at hd
    refine ⟨by go_simp; done, ?_⟩
    go_simp
    first | (go_ints; exact rfl) | (go_ints; rw [if_pos (by omega)]; try exact rfl) | exact rfl | (rw [if_pos (by omega)]; try exact rfl)
  refine walkM_call (MP.agg x1) ?_ ?_
  · intro yq zq wq hC hd
    obtain ⟨hcq, hfq⟩ := bcell hC
    simp at hd
    refine ⟨by go_simp; done, ?_⟩
    apply Exists.intro
    apply Exists.intro
    constructor
    · go_simp
      exact ⟨rfl, rfl⟩
    · exact gives_agg (laws_toRat _ x1 _ _ (Agg.below H1.out (by (repeat (first | (with_reducible exact Below.refl _ _) | ((with_reducible refine Below.set ?_ ?_ _); rotate_left; (simp <;> omega)) | (with_reducible refine Below.box_ ?_ _) | (with_reducible refine Below.next ?_ (by assumption)))))) q1)
  refine walkM_call (MP.eq (.bool (Go.XN.goalHoldsB x0 x1))) ?_ ?_
  · intro yq zq wq hC hd
    obtain ⟨hcq, hfq⟩ := bcell hC
    simp at hd
    refine ⟨by go_simp; done, ?_⟩
    apply Exists.intro
    apply Exists.intro
    constructor
    · go_simp
      exact ⟨rfl, rfl⟩
    · exact gives_eq (spec_GoalHolds _ _  x0 x1 _ _  _ hd.1.1 hd.2.1)
  apply walkM_eq
  case h =>
    intro yq zq wq hC hd
    obtain ⟨hcq, hfq⟩ := bcell hC
    simp at hd
    refine ⟨by go_simp; done, ?_⟩
    go_simp
    first | (go_ints; exact rfl) | (go_ints; rw [if_pos (by omega)]; try exact rfl) | exact rfl | (rw [if_pos (by omega)]; try exact rfl)
  intro yq zq ux hC hd hdis0
  have hdis := hid hdis0
  clear hdis0
  simp at hd
  go_simp
  clear hd hdis
  have hbw0 := hC; have hz0 : w.heap.size < ux.heap.size ∧ w.heap.size + 1 < ux.heap.size := by have := hC.size; omega
  obtain ⟨hz0_0, hz0_1⟩ := hz0
  obtain ⟨hcw0, hfw0⟩ := bcell hbw0
  go_wp2_with fail
  refine (laws_toGoal _ x0 _ _ (Agg.below H0.out (by (repeat (first | (with_reducible exact Below.refl _ _) | ((with_reducible refine Below.set ?_ ?_ _); rotate_left; (simp <;> omega)) | (with_reducible refine Below.box_ ?_ _) | (with_reducible refine Below.next ?_ (by assumption)))))) q0).mono ?_
  rintro e ux0 ⟨rx0, tx0, rfl, ha0, ho0, hbx0⟩
  have HX0 := hid ha0; have HO0 := hid ho0
  obtain ⟨X0x1, nX0x1, cX0x1, sX0x1, X0x2, nX0x2, cX0x2, sX0x2, X0x4, nX0x4, cX0x4, sX0x4, X0x5, nX0x5, cX0x5, sX0x5, rfl, hqs0, y0x1, y0x2, y0x4, y0x5⟩ := TGoal.agg ha0
  clear ha0 ho0 hqs0 y0x1 y0x2 y0x4 y0x5
  obtain ⟨hcx0, hfx0⟩ := bcell hbx0
  have hzx0 : w.heap.size < ux0.heap.size ∧ w.heap.size + 1 < ux0.heap.size := by have := hbx0.size; (try simp at this); omega
  obtain ⟨hzx0_0, hzx0_1⟩ := hzx0
  go_wp2_with fail
  refine (laws_toRat _ x1 _ _ (Agg.below H1.out (by (repeat (first | (with_reducible exact Below.refl _ _) | ((with_reducible refine Below.set ?_ ?_ _); rotate_left; (simp <;> omega)) | (with_reducible refine Below.box_ ?_ _) | (with_reducible refine Below.next ?_ (by assumption)))))) q1).mono ?_
  rintro e ux1 ⟨rx1, tx1, rfl, ha1, ho1, hbx1⟩
  have HX1 := hid ha1; have HO1 := hid ho1
  obtain ⟨X1x1, nX1x1, cX1x1, sX1x1, X1x2, nX1x2, cX1x2, sX1x2, rfl, hqs1, y1x1, y1x2⟩ := TRat.agg ha1
  clear ha1 ho1 hqs1 y1x1 y1x2
  obtain ⟨hcx1, hfx1⟩ := bcell hbx1
  have hzx1 : w.heap.size < ux1.heap.size ∧ w.heap.size + 1 < ux1.heap.size := by have := hbx1.size; (try simp at this); omega
  obtain ⟨hzx1_0, hzx1_1⟩ := hzx1
  have hyx1_x0 : ux0.heap.size < ux1.heap.size := by have := hbx1.size; (try simp at this); omega
  go_wp2_with fail
  refine (impl_GoalHolds _ _  x0 x1 _ _  _ (Agg.below HX0.out (by (repeat (first | (with_reducible exact Below.refl _ _) | ((with_reducible refine Below.set ?_ ?_ _); rotate_left; (simp <;> omega)) | (with_reducible refine Below.box_ ?_ _) | (with_reducible refine Below.next ?_ (by assumption)))))) (Agg.below HX1.out (by (repeat (first | (with_reducible exact Below.refl _ _) | ((with_reducible refine Below.set ?_ ?_ _); rotate_left; (simp <;> omega)) | (with_reducible refine Below.box_ ?_ _) | (with_reducible refine Below.next ?_ (by assumption))))))).mono ?_
  rintro e ug ⟨rfl, hbg⟩
  obtain ⟨hcg, hfg⟩ := bcell hbg
  have hzg : w.heap.size < ug.heap.size ∧ w.heap.size + 1 < ug.heap.size := by have := hbg.size; (try simp at this); omega
  obtain ⟨hzg_0, hzg_1⟩ := hzg
  have hyg_x0 : ux0.heap.size < ug.heap.size := by have := hbg.size; (try simp at this); omega
  have hyg_x1 : ux1.heap.size < ug.heap.size := by have := hbg.size; (try simp at this); omega
  go_wp2_with fail
  have hd0 : decide (x0 = x0) = true := by simp
  refine wp_region_walk (by kernel_rfl) (by kernel_rfl) (by kernel_rfl) ?_
  apply walkM_eq
  case h =>
    intro yq zq wq hC hd
    obtain ⟨hcq, hfq⟩ := bcell hC
    simp at hd
    refine ⟨by go_simp; done, ?_⟩
    go_simp
    first | (go_ints; exact rfl) | (go_ints; rw [if_pos (by omega)]; try exact rfl) | exact rfl | (rw [if_pos (by omega)]; try exact rfl)
  apply walkM_eq
  case h =>
    intro yq zq wq hC hd
    obtain ⟨hcq, hfq⟩ := bcell hC
    simp at hd
    refine ⟨by go_simp; done, ?_⟩
    go_simp
    first | (go_ints; exact rfl) | (go_ints; rw [if_pos (by omega)]; try exact rfl) | exact rfl | (rw [if_pos (by omega)]; try exact rfl)
  refine walkM_call (MP.agg x0) ?_ ?_
  · intro yq zq wq hC hd
    obtain ⟨hcq, hfq⟩ := bcell hC
    simp at hd
    refine ⟨by go_simp; done, ?_⟩
    apply Exists.intro
    apply Exists.intro
    constructor
    · go_simp
      exact ⟨rfl, rfl⟩
    · exact gives_agg (laws_toGoal _ x0 _ _ (Agg.below H0.out (by (repeat (first | (with_reducible exact Below.refl _ _) | ((with_reducible refine Below.set ?_ ?_ _); rotate_left; (simp <;> omega)) | (with_reducible refine Below.box_ ?_ _) | (with_reducible refine Below.next ?_ (by assumption)))))) q0)
  refine walkM_call (MP.eq (.bool true)) ?_ ?_
  · intro yq zq wq hC hd
    obtain ⟨hcq, hfq⟩ := bcell hC
    simp at hd
    refine ⟨by go_simp; done, ?_⟩
    apply Exists.intro
    apply Exists.intro
    constructor
    · go_simp
      exact ⟨rfl, rfl⟩
    · exact gives_eq (by have := laws_eqGoal _ _ x0 x0 _ _ _ (Agg.below HX0.out (by (repeat (first | (with_reducible exact Below.refl _ _) | ((with_reducible refine Below.set ?_ ?_ _); rotate_left; (simp <;> omega)) | (with_reducible refine Below.box_ ?_ _) | (with_reducible refine Below.next ?_ (by assumption)))))) hd.2.1; rwa [hd0] at this)
  apply walkM_eq
  case h =>
    intro yq zq wq hC hd
    obtain ⟨hcq, hfq⟩ := bcell hC
    simp at hd
    refine ⟨by go_simp; done, ?_⟩
    go_simp
    first | (go_ints; exact rfl) | (go_ints; rw [if_pos (by omega)]; try exact rfl) | exact rfl | (rw [if_pos (by omega)]; try exact rfl)
  intro yq zq ue0 hC hd hdis0
  have hdis := hid hdis0
  clear hdis0
  simp at hd
  go_simp
  clear hd hdis
  have hbe0 := hC; clear hC
  obtain ⟨hce0, hfe0⟩ := bcell hbe0
  have hze0 : w.heap.size < ue0.heap.size ∧ w.heap.size + 1 < ue0.heap.size := by have := hbe0.size; omega
  obtain ⟨hze0_0, hze0_1⟩ := hze0
  have hye0_0 : ux0.heap.size < ue0.heap.size := by have := hbe0.size; omega
  have hye0_1 : ux1.heap.size < ue0.heap.size := by have := hbe0.size; omega
  go_wp2_with fail
  have hd1 : decide (x1 = x1) = true := by simp
  refine wp_region_walk (by kernel_rfl) (by kernel_rfl) (by kernel_rfl) ?_
  apply walkM_eq
  case h =>
    intro yq zq wq hC hd
    obtain ⟨hcq, hfq⟩ := bcell hC
    simp at hd
    refine ⟨by go_simp; done, ?_⟩
    go_simp
    first | (go_ints; exact rfl) | (go_ints; rw [if_pos (by omega)]; try exact rfl) | exact rfl | (rw [if_pos (by omega)]; try exact rfl)
  apply walkM_eq
  case h =>
    intro yq zq wq hC hd
    obtain ⟨hcq, hfq⟩ := bcell hC
    simp at hd
    refine ⟨by go_simp; done, ?_⟩
    go_simp
    first | (go_ints; exact rfl) | (go_ints; rw [if_pos (by omega)]; try exact rfl) | exact rfl | (rw [if_pos (by omega)]; try exact rfl)
  refine walkM_call (MP.agg x1) ?_ ?_
  · intro yq zq wq hC hd
    obtain ⟨hcq, hfq⟩ := bcell hC
    simp at hd
    refine ⟨by go_simp; done, ?_⟩
    apply Exists.intro
    apply Exists.intro
    constructor
    · go_simp
      exact ⟨rfl, rfl⟩
    · exact gives_agg (laws_toRat _ x1 _ _ (Agg.below H1.out (by (repeat (first | (with_reducible exact Below.refl _ _) | ((with_reducible refine Below.set ?_ ?_ _); rotate_left; (simp <;> omega)) | (with_reducible refine Below.box_ ?_ _) | (with_reducible refine Below.next ?_ (by assumption)))))) q1)
  refine walkM_call (MP.eq (.bool true)) ?_ ?_
  · intro yq zq wq hC hd
    obtain ⟨hcq, hfq⟩ := bcell hC
    simp at hd
    refine ⟨by go_simp; done, ?_⟩
    apply Exists.intro
    apply Exists.intro
    constructor
    · go_simp
      exact ⟨rfl, rfl⟩
    · exact gives_eq (by have := laws_eqRat _ _ x1 x1 _ _ _ (Agg.below HX1.out (by (repeat (first | (with_reducible exact Below.refl _ _) | ((with_reducible refine Below.set ?_ ?_ _); rotate_left; (simp <;> omega)) | (with_reducible refine Below.box_ ?_ _) | (with_reducible refine Below.next ?_ (by assumption)))))) hd.2.1; rwa [hd1] at this)
  apply walkM_eq
  case h =>
    intro yq zq wq hC hd
    obtain ⟨hcq, hfq⟩ := bcell hC
    simp at hd
    refine ⟨by go_simp; done, ?_⟩
    go_simp
    first | (go_ints; exact rfl) | (go_ints; rw [if_pos (by omega)]; try exact rfl) | exact rfl | (rw [if_pos (by omega)]; try exact rfl)
  intro yq zq ue1 hC hd hdis0
  have hdis := hid hdis0
  clear hdis0
  simp at hd
  go_simp
  clear hd hdis
  have hbe1 := hC; clear hC
  obtain ⟨hce1, hfe1⟩ := bcell hbe1
  have hze1 : w.heap.size < ue1.heap.size ∧ w.heap.size + 1 < ue1.heap.size := by have := hbe1.size; omega
  obtain ⟨hze1_0, hze1_1⟩ := hze1
  have hye1_0 : ux0.heap.size < ue1.heap.size := by have := hbe1.size; omega
  have hye1_1 : ux1.heap.size < ue1.heap.size := by have := hbe1.size; omega
  go_wp2
  go_ret
  exact ⟨rfl, by (repeat (first | (with_reducible exact Below.refl _ _) | ((with_reducible refine Below.set ?_ ?_ _); rotate_left; (simp <;> omega)) | (with_reducible refine Below.box_ ?_ _) | (with_reducible refine Below.next ?_ (by assumption))))⟩

theorem own : ownKnob Try.prog.godebug = none := by kernel_rfl
theorem laidOut : laidOutB Try.prog = true := by kernel_rfl

set_option maxRecDepth 100000 in
theorem lifted (os : Os) (started : os.Started) (H : Type) (enc : TypeId × Value → H) :
    ReturnsInHanded {} Try.checked os 4 .any (Rows.fnExactGoalHoldsSpec.pre6 enc Try.prog Try.f4 Rows.fnExactGoalHoldsRow.domain false) (Rows.fnExactGoalHoldsSpec.post enc Try.prog Try.f4 false true false false) := by
  refine returnsInHanded_of_change (C := Try.checked) own started (by kernel_rfl) Try.func4
    (ChangeSpec.witness6 (enc := enc) (C := Try.checked) false ⟨#[], #[.agg #[.bool false, .slice none 0 0, .slice none 0 0, .bool false, .slice none 0 0, .slice none 0 0], .agg #[.bool false, .slice none 0 0, .slice none 0 0]], []⟩ 8 (by kernel_rfl) (by kernel_rfl) (by kernel_rfl) (by kernel_rfl)) ?_
  intro W base args ds gs before hval0 hW hcnd _
  have hval : ∀ (j : Nat) t v, Try.f4.params[j]? = some t → args[j]? = some v → Value.okWide Try.prog W .any base t v := hval0
  have hW' := hW
  obtain ⟨p, q, hA0, hV, rfl, hfz, hnd⟩ := hW
  have hA : DataW.TrodAll enc Try.prog W 0 (fun _ => true) true Try.f4.params.toList args.toList ds p := hA0
  rw [Try.params4] at hA hval
  obtain ⟨v0, vs0, d0, ds0, p0, q0, hargs, rfl, rfl, h0, r0⟩ := trodAll_cons hA
  obtain ⟨v1, vs1, d1, ds1, p1, q1, rfl, rfl, rfl, h1, r1⟩ := trodAll_cons r0
  obtain ⟨rfl, rfl, rfl⟩ := trodAll_nil r1
  obtain rfl : args = #[v0, v1] := by cases args; simp_all
  obtain ⟨rfl, rfl⟩ := trodVars_none hV
  clear hA0 hval0
  simp only [List.append_nil] at hW'
  obtain ⟨x0, b0, g0⟩ := Opens.agg oTGoal Try.underlying42 (hval 0 42 v0 rfl rfl) h0
  obtain ⟨x1, b1, g1⟩ := Opens.agg oTRat Try.underlying40 (hval 1 40 v1 rfl rfl) h1
  refine (walk _ _ x0 x1 b0 b1 W g0 g1).mono fun e W' ⟨he, hB⟩ => ?_
  subst he
  have l0 : ∀ x ∈ p0, x.block < W.heap.size := fun x hx => hW'.lt x (by simp [hx])
  have l1 : ∀ x ∈ p1, x.block < W.heap.size := fun x hx => hW'.lt x (by simp [hx])
  refine ⟨_, rfl, _, _, _, [], p0 ++ (p1), [], hW', trodAll_cons_mk (shut_bool Try.underlying4 _) trodAll_mk0, ?_, rfl, hB.frame _, fun h => by cases h⟩
  have ha := trodAll_cons_mk (Below.trod laidOut (by kernel_rfl) (of_decide_eq_true (by kernel_rfl)) h0 hB l0) (trodAll_cons_mk (Below.trod laidOut (by kernel_rfl) (of_decide_eq_true (by kernel_rfl)) h1 hB l1) trodAll_mk0)
  simp only [List.append_nil] at ha
  exact ha

theorem proved : Rows.FnExactGoalHoldsSaid :=
  OpenClaim.holds_of_wide 4 Try.f4 rfl rfl rfl rfl rfl rfl rfl ⟨rfl, rfl, rfl, rfl, rfl⟩ rfl rfl rfl rfl rfl (by kernel_rfl) Try.func4 (by kernel_rfl)
    (of_decide_eq_true (by kernel_rfl)) (by unfold Func.isWrapper; first | (rw [if_pos (by decide +kernel)]; kernel_rfl) | (rw [if_neg (by decide +kernel)]; exact ⟨rfl, rfl⟩))
    (fun os started H enc _ => lifted os started H enc)
#print axioms proved
end Go.Proofs.Ythlpjpcnpcclhaa.fnExactGoalHolds
