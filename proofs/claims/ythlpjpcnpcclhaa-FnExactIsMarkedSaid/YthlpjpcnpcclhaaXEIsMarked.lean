/- FnExactIsMarked: for every input, the program's IsMarked returns what the reference's returns: the law returns true, and its arguments read as before. No condition. -/
import Derived.Test.YthlpjpcnpcclhaaPL
import Derived.Test.YthlpjpcnpcclhaaP2
import Derived.Test.YthlpjpcnpcclhaaXMarked
import Derived.WalkLawsBesides
import Derived.ProofKit
import Derived.OpenShut
namespace Go.Proofs.Ythlpjpcnpcclhaa.fnExactIsMarked
open Go.ChangeShapes Go.WideShapes Go.ChangeAt Go.RowKit Go.XB Go.XN Go.Proofs.Ythlpjpcnpcclhaa.X
attribute [local go_sem] fillBy opAt deps depOf Region.wanted yielded
attribute [local simp] deps depOf MP.eq MP.agg MP.sl Facts
set_option linter.constructorNameAsVariable false

set_option maxHeartbeats 4000000 in
theorem walk (A0 : Option Addr) (n0 c0 : Nat) (v1 : Value) (A2 : Option Addr) (n2 c2 : Nat) (x0 : List TRat) (x1 : TRat) (x2 : List Int) (b0 b1 b2 : List Nat) (w : World) (h0 : Sl w A0 n0 c0 x0 b0) (h1 : Agg w v1 x1 b1) (h2 : Sl w A2 n2 c2 x2 b2) :
    Calls Try.prog 10 #[.slice A0 n0 c0, v1, .slice A2 n2 c2] w (Gives w (.bool true)) := by
  have H0 := hid h0; have H1 := hid h1; have H2 := hid h2
  have hm0 : n0 ≤ maxLen := Nat.le_trans h0.2.1 h0.2.2.1
  have hm2 : n2 ≤ maxLen := Nat.le_trans h2.2.1 h2.2.2.1
  unfold maxLen at hm0 hm2
  obtain ⟨P1, nP1, cP1, sP1, P2, nP2, cP2, sP2, rfl, rfl, hp1, hp2⟩ := TRat.agg h1
  clear hp1 hp2 h0 h1 h2
  by_cases hbig : (1048576 : Int) < n2
  · go_enter Try.func10, Try.ntmps10
    go_wp2
    go_ret
    exact ⟨rfl, by (repeat (first | (with_reducible exact Below.refl _ _) | ((with_reducible refine Below.set ?_ ?_ _); rotate_left; (simp <;> omega)) | (with_reducible refine Below.box_ ?_ _) | (with_reducible refine Below.next ?_ (by assumption))))⟩
  have q2 : n2 ≤ 1048576 := by omega
  have k0a : (0 : Int) ≤ 1048576 := by omega
  have m0 : (1048576 : Int) ≤ 1048576 := by omega
  rcases minus_cases 1048576 (cntL TRat.cnt x0) with ⟨k1, e1, l1⟩ | ⟨k1, e1, l1⟩
  · clear e1 l1
    go_enter Try.func10, Try.ntmps10
    go_wp2_with fail
    refine (laws_szRatS _ _ _ x0 _ 1048576 _ (Sl.below H0.out (by (repeat (first | (with_reducible exact Below.refl _ _) | ((with_reducible refine Below.set ?_ ?_ _); rotate_left; (simp <;> omega)) | (with_reducible refine Below.box_ ?_ _) | (with_reducible refine Below.next ?_ (by assumption)))))) k0a m0).mono ?_
    rintro e us0 ⟨rfl, hbus0⟩
    obtain ⟨hcus0, hfus0⟩ := bcell hbus0
    have hzus0_0 : w.heap.size < us0.heap.size := by have := hbus0.size; (try simp at this); omega
    go_wp2
    go_ret
    exact ⟨rfl, by (repeat (first | (with_reducible exact Below.refl _ _) | ((with_reducible refine Below.set ?_ ?_ _); rotate_left; (simp <;> omega)) | (with_reducible refine Below.box_ ?_ _) | (with_reducible refine Below.next ?_ (by assumption))))⟩
  have q0 : (cntL TRat.cnt x0) ≤ 1048576 := by omega
  have k1a : 0 ≤ (minus 1048576 (cntL TRat.cnt x0)) := k1
  have m1 : (minus 1048576 (cntL TRat.cnt x0)) ≤ 1048576 := by omega
  clear e1 l1
  rcases minus_cases (minus 1048576 (cntL TRat.cnt x0)) (x1.cnt) with ⟨k2, e1, l1⟩ | ⟨k2, e1, l1⟩
  · clear e1 l1
    go_enter Try.func10, Try.ntmps10
    go_wp2_with fail
    refine (laws_szRatS _ _ _ x0 _ 1048576 _ (Sl.below H0.out (by (repeat (first | (with_reducible exact Below.refl _ _) | ((with_reducible refine Below.set ?_ ?_ _); rotate_left; (simp <;> omega)) | (with_reducible refine Below.box_ ?_ _) | (with_reducible refine Below.next ?_ (by assumption)))))) k0a m0).mono ?_
    rintro e us0 ⟨rfl, hbus0⟩
    obtain ⟨hcus0, hfus0⟩ := bcell hbus0
    have hzus0_0 : w.heap.size < us0.heap.size := by have := hbus0.size; (try simp at this); omega
    go_wp2_with fail
    refine (laws_szRat _ x1 _ (minus 1048576 (cntL TRat.cnt x0)) _ (Agg.below H1.out (by (repeat (first | (with_reducible exact Below.refl _ _) | ((with_reducible refine Below.set ?_ ?_ _); rotate_left; (simp <;> omega)) | (with_reducible refine Below.box_ ?_ _) | (with_reducible refine Below.next ?_ (by assumption)))))) k1a m1).mono ?_
    rintro e us1 ⟨rfl, hbus1⟩
    obtain ⟨hcus1, hfus1⟩ := bcell hbus1
    have hzus1_0 : w.heap.size < us1.heap.size := by have := hbus1.size; (try simp at this); omega
    go_wp2
    go_ret
    exact ⟨rfl, by (repeat (first | (with_reducible exact Below.refl _ _) | ((with_reducible refine Below.set ?_ ?_ _); rotate_left; (simp <;> omega)) | (with_reducible refine Below.box_ ?_ _) | (with_reducible refine Below.next ?_ (by assumption))))⟩
  have q1 : (x1.cnt) ≤ 1048576 := by omega
  have k2a : 0 ≤ (minus (minus 1048576 (cntL TRat.cnt x0)) (x1.cnt)) := k2
  clear e1 l1
  go_enter Try.func10, Try.ntmps10
  go_wp2_with fail
  refine (laws_szRatS _ _ _ x0 _ 1048576 _ (Sl.below H0.out (by (repeat (first | (with_reducible exact Below.refl _ _) | ((with_reducible refine Below.set ?_ ?_ _); rotate_left; (simp <;> omega)) | (with_reducible refine Below.box_ ?_ _) | (with_reducible refine Below.next ?_ (by assumption)))))) k0a m0).mono ?_
  rintro e us0 ⟨rfl, hbus0⟩
  obtain ⟨hcus0, hfus0⟩ := bcell hbus0
  have hzus0_0 : w.heap.size < us0.heap.size := by have := hbus0.size; (try simp at this); omega
  go_wp2_with fail
  refine (laws_szRat _ x1 _ (minus 1048576 (cntL TRat.cnt x0)) _ (Agg.below H1.out (by (repeat (first | (with_reducible exact Below.refl _ _) | ((with_reducible refine Below.set ?_ ?_ _); rotate_left; (simp <;> omega)) | (with_reducible refine Below.box_ ?_ _) | (with_reducible refine Below.next ?_ (by assumption)))))) k1a m1).mono ?_
  rintro e us1 ⟨rfl, hbus1⟩
  obtain ⟨hcus1, hfus1⟩ := bcell hbus1
  have hzus1_0 : w.heap.size < us1.heap.size := by have := hbus1.size; (try simp at this); omega
  go_wp2_with fail
  refine wp_region_walk (by kernel_rfl) (by kernel_rfl) (by kernel_rfl) ?_
  apply walkM_eq
  case h =>
    intro yq zq wq hC hd
    obtain ⟨hcq, hfq⟩ := bcell hC
    simp at hd
    refine ⟨by go_simp; done, ?_⟩
    go_simp
    first | (go_ints; exact rfl) | (go_ints; rw [if_pos (by omega)]; try exact rfl) | exact rfl | (rw [if_pos (by omega)]; try exact rfl)
  refine walkM_call (MP.sl x0) ?_ ?_
  · intro yq zq wq hC hd
    obtain ⟨hcq, hfq⟩ := bcell hC
    simp at hd
    refine ⟨by go_simp; done, ?_⟩
    apply Exists.intro
    apply Exists.intro
    constructor
    · go_simp
      exact ⟨rfl, rfl⟩
    · exact gives_sl (laws_toRatS _ _ _ x0 _ _ (Sl.below H0.out (by (repeat (first | (with_reducible exact Below.refl _ _) | ((with_reducible refine Below.set ?_ ?_ _); rotate_left; (simp <;> omega)) | (with_reducible refine Below.box_ ?_ _) | (with_reducible refine Below.next ?_ (by assumption)))))) q0)
  apply walkM_eq
  case h =>
    intro yq zq wq hC hd
    obtain ⟨hcq, hfq⟩ := bcell hC
    simp at hd
    refine ⟨by go_simp; done, ?_⟩
    go_simp
    first | (go_ints; exact rfl) | (go_ints; rw [if_pos (by omega)]; try exact rfl) | exact rfl | (rw [if_pos (by omega)]; try exact rfl)
  refine walkM_call (MP.agg x1) ?_ ?_
  · intro yq zq wq hC hd
    obtain ⟨hcq, hfq⟩ := bcell hC
    simp at hd
    refine ⟨by go_simp; done, ?_⟩
    apply Exists.intro
    apply Exists.intro
    constructor
    · go_simp
      exact ⟨rfl, rfl⟩
    · exact gives_agg (laws_toRat _ x1 _ _ (Agg.below H1.out (by (repeat (first | (with_reducible exact Below.refl _ _) | ((with_reducible refine Below.set ?_ ?_ _); rotate_left; (simp <;> omega)) | (with_reducible refine Below.box_ ?_ _) | (with_reducible refine Below.next ?_ (by assumption)))))) q1)
  apply walkM_eq
  case h =>
    intro yq zq wq hC hd
    obtain ⟨hcq, hfq⟩ := bcell hC
    simp at hd
    refine ⟨by go_simp; done, ?_⟩
    go_simp
    first | (go_ints; exact rfl) | (go_ints; rw [if_pos (by omega)]; try exact rfl) | exact rfl | (rw [if_pos (by omega)]; try exact rfl)
  refine walkM_call (MP.sl x2) ?_ ?_
  · intro yq zq wq hC hd
    obtain ⟨hcq, hfq⟩ := bcell hC
    simp at hd
    refine ⟨by go_simp; done, ?_⟩
    apply Exists.intro
    apply Exists.intro
    constructor
    · go_simp
      exact ⟨rfl, rfl⟩
    · exact gives_sl (laws_toIntS _ _ _ x2 _ _ (Sl.below H2.out (by (repeat (first | (with_reducible exact Below.refl _ _) | ((with_reducible refine Below.set ?_ ?_ _); rotate_left; (simp <;> omega)) | (with_reducible refine Below.box_ ?_ _) | (with_reducible refine Below.next ?_ (by assumption)))))) q2)
  refine walkM_call (MP.eq (.bool (isMarkedB x0 x1 x2))) ?_ ?_
  · intro yq zq wq hC hd
    obtain ⟨hcq, hfq⟩ := bcell hC
    simp at hd
    refine ⟨by go_simp; done, ?_⟩
    apply Exists.intro
    apply Exists.intro
    constructor
    · go_simp
      exact ⟨rfl, rfl⟩
    · obtain ⟨⟨⟨A', n', c', e', hs'⟩, _⟩, ⟨ha', _⟩, ⟨⟨A3, n3, c3, e3, hs3⟩, _⟩⟩ := hd
      rw [e', e3]
      exact gives_eq (spec_IsMarked A' n' c' x0 _ _ x1 _ A3 n3 c3 x2 _ _ hs' ha' hs3)
  apply walkM_eq
  case h =>
    intro yq zq wq hC hd
    obtain ⟨hcq, hfq⟩ := bcell hC
    simp at hd
    refine ⟨by go_simp; done, ?_⟩
    go_simp
    first | (go_ints; exact rfl) | (go_ints; rw [if_pos (by omega)]; try exact rfl) | exact rfl | (rw [if_pos (by omega)]; try exact rfl)
  intro yq zq ux hC hd hdis0
  have hdis := hid hdis0
  clear hdis0
  simp at hd
  go_simp
  clear hd hdis
  have hbux := hC
  obtain ⟨hcux, hfux⟩ := bcell hbux
  have hzux_0 : w.heap.size < ux.heap.size := by have := hbux.size; (try simp at this); omega
  clear hC
  go_wp2_with fail
  refine (laws_toRatS _ _ _ x0 _ _ (Sl.below H0.out (by (repeat (first | (with_reducible exact Below.refl _ _) | ((with_reducible refine Below.set ?_ ?_ _); rotate_left; (simp <;> omega)) | (with_reducible refine Below.box_ ?_ _) | (with_reducible refine Below.next ?_ (by assumption)))))) q0).mono ?_
  rintro e ux0 ⟨X0, nX0, cX0, tX0, rfl, ha0, ho0, hbux0⟩
  have HX0 := hid ha0
  clear ha0 ho0
  obtain ⟨hcux0, hfux0⟩ := bcell hbux0
  have hzux0_0 : w.heap.size < ux0.heap.size := by have := hbux0.size; (try simp at this); omega
  go_wp2_with fail
  refine (laws_toRat _ x1 _ _ (Agg.below H1.out (by (repeat (first | (with_reducible exact Below.refl _ _) | ((with_reducible refine Below.set ?_ ?_ _); rotate_left; (simp <;> omega)) | (with_reducible refine Below.box_ ?_ _) | (with_reducible refine Below.next ?_ (by assumption)))))) q1).mono ?_
  rintro e ux1 ⟨rx1, tx1, rfl, ha1, ho1, hbux1⟩
  obtain ⟨X1, nX1, cX1, sX1, X2, nX2, cX2, sX2, rfl, hq1, _, _⟩ := TRat.agg ha1
  have HX1 := hid ha1
  clear ha1 ho1 hq1
  obtain ⟨hcux1, hfux1⟩ := bcell hbux1
  have hzux1_0 : w.heap.size < ux1.heap.size := by have := hbux1.size; (try simp at this); omega
  go_wp2_with fail
  refine (laws_toIntS _ _ _ x2 _ _ (Sl.below H2.out (by (repeat (first | (with_reducible exact Below.refl _ _) | ((with_reducible refine Below.set ?_ ?_ _); rotate_left; (simp <;> omega)) | (with_reducible refine Below.box_ ?_ _) | (with_reducible refine Below.next ?_ (by assumption)))))) q2).mono ?_
  rintro e ux2 ⟨X3, nX3, cX3, tX3, rfl, ha2, ho2, hbux2⟩
  have HX2 := hid ha2
  clear ha2 ho2
  obtain ⟨hcux2, hfux2⟩ := bcell hbux2
  have hzux2_0 : w.heap.size < ux2.heap.size := by have := hbux2.size; (try simp at this); omega
  have hzux2_1 : ux1.heap.size < ux2.heap.size := by have := hbux2.size; (try simp at this); omega
  go_wp2_with fail
  refine (impl_IsMarked _ _ _ x0 _ _ x1 _ _ _ _ x2 _ _ (Sl.below HX0.out (by (repeat (first | (with_reducible exact Below.refl _ _) | ((with_reducible refine Below.set ?_ ?_ _); rotate_left; (simp <;> omega)) | (with_reducible refine Below.box_ ?_ _) | (with_reducible refine Below.next ?_ (by assumption)))))) (Agg.below HX1.out (by (repeat (first | (with_reducible exact Below.refl _ _) | ((with_reducible refine Below.set ?_ ?_ _); rotate_left; (simp <;> omega)) | (with_reducible refine Below.box_ ?_ _) | (with_reducible refine Below.next ?_ (by assumption)))))) (Sl.below HX2.out (by (repeat (first | (with_reducible exact Below.refl _ _) | ((with_reducible refine Below.set ?_ ?_ _); rotate_left; (simp <;> omega)) | (with_reducible refine Below.box_ ?_ _) | (with_reducible refine Below.next ?_ (by assumption))))))).mono ?_
  rintro e ug ⟨rfl, hbug⟩
  obtain ⟨hcug, hfug⟩ := bcell hbug
  have hzug_0 : w.heap.size < ug.heap.size := by have := hbug.size; (try simp at this); omega
  have hzug_1 : ux1.heap.size < ug.heap.size := by have := hbug.size; (try simp at this); omega
  go_wp2_with fail
  refine (laws_toRatS _ _ _ x0 _ _ (Sl.below H0.out (by (repeat (first | (with_reducible exact Below.refl _ _) | ((with_reducible refine Below.set ?_ ?_ _); rotate_left; (simp <;> omega)) | (with_reducible refine Below.box_ ?_ _) | (with_reducible refine Below.next ?_ (by assumption)))))) q0).mono ?_
  rintro e uy ⟨Y0, nY0, cY0, tY0, rfl, hay, hoy, hbuy⟩
  have HY0 := hid hay
  clear hay hoy
  obtain ⟨hcuy, hfuy⟩ := bcell hbuy
  have hzuy_0 : w.heap.size < uy.heap.size := by have := hbuy.size; (try simp at this); omega
  have hzuy_1 : ux1.heap.size < uy.heap.size := by have := hbuy.size; (try simp at this); omega
  go_wp2_with fail
  have C := laws_eqRatS X0 Y0 nX0 nY0 cX0 cY0 x0 x0 _ _ uy (Sl.below HX0.out (by (repeat (first | (with_reducible exact Below.refl _ _) | ((with_reducible refine Below.set ?_ ?_ _); rotate_left; (simp <;> omega)) | (with_reducible refine Below.box_ ?_ _) | (with_reducible refine Below.next ?_ (by assumption)))))) HY0.out
  rw [show decide (x0 = x0) = true by simp] at C
  refine C.mono ?_
  clear C
  rintro e uz ⟨rfl, hbuz⟩
  obtain ⟨hcuz, hfuz⟩ := bcell hbuz
  have hzuz_0 : w.heap.size < uz.heap.size := by have := hbuz.size; (try simp at this); omega
  have hzuz_1 : ux1.heap.size < uz.heap.size := by have := hbuz.size; (try simp at this); omega
  go_wp2_with fail
  refine wp_region_walk (by kernel_rfl) (by kernel_rfl) (by kernel_rfl) ?_
  apply walkM_eq
  case h =>
    intro yq zq wq hC hd
    obtain ⟨hcq, hfq⟩ := bcell hC
    simp at hd
    refine ⟨by go_simp; done, ?_⟩
    go_simp
    first | (go_ints; exact rfl) | (go_ints; rw [if_pos (by omega)]; try exact rfl) | exact rfl | (rw [if_pos (by omega)]; try exact rfl)
  apply walkM_eq
  case h =>
    intro yq zq wq hC hd
    obtain ⟨hcq, hfq⟩ := bcell hC
    simp at hd
    refine ⟨by go_simp; done, ?_⟩
    go_simp
    first | (go_ints; exact rfl) | (go_ints; rw [if_pos (by omega)]; try exact rfl) | exact rfl | (rw [if_pos (by omega)]; try exact rfl)
  refine walkM_call (MP.agg x1) ?_ ?_
  · intro yq zq wq hC hd
    obtain ⟨hcq, hfq⟩ := bcell hC
    simp at hd
    refine ⟨by go_simp; done, ?_⟩
    apply Exists.intro
    apply Exists.intro
    constructor
    · go_simp
      exact ⟨rfl, rfl⟩
    · exact gives_agg (laws_toRat _ x1 _ _ (Agg.below H1.out (by (repeat (first | (with_reducible exact Below.refl _ _) | ((with_reducible refine Below.set ?_ ?_ _); rotate_left; (simp <;> omega)) | (with_reducible refine Below.box_ ?_ _) | (with_reducible refine Below.next ?_ (by assumption)))))) q1)
  refine walkM_call (MP.eq (.bool true)) ?_ ?_
  · intro yq zq wq hC hd
    obtain ⟨hcq, hfq⟩ := bcell hC
    simp at hd
    refine ⟨by go_simp; done, ?_⟩
    apply Exists.intro
    apply Exists.intro
    constructor
    · go_simp
      exact ⟨rfl, rfl⟩
    · exact gives_eq (by have := laws_eqRat _ _ x1 x1 _ _ _ (Agg.below HX1.out (by (repeat (first | (with_reducible exact Below.refl _ _) | ((with_reducible refine Below.set ?_ ?_ _); rotate_left; (simp <;> omega)) | (with_reducible refine Below.box_ ?_ _) | (with_reducible refine Below.next ?_ (by assumption)))))) hd.2.1; rwa [show decide (x1 = x1) = true by simp] at this)
  apply walkM_eq
  case h =>
    intro yq zq wq hC hd
    obtain ⟨hcq, hfq⟩ := bcell hC
    simp at hd
    refine ⟨by go_simp; done, ?_⟩
    go_simp
    first | (go_ints; exact rfl) | (go_ints; rw [if_pos (by omega)]; try exact rfl) | exact rfl | (rw [if_pos (by omega)]; try exact rfl)
  intro yq zq ue hC hd hdis0
  have hdis := hid hdis0
  clear hdis0
  simp at hd
  go_simp
  clear hd hdis
  have hbue := hC; clear hC
  obtain ⟨hcue, hfue⟩ := bcell hbue
  have hzue_0 : w.heap.size < ue.heap.size := by have := hbue.size; (try simp at this); omega
  have hzue_1 : ux1.heap.size < ue.heap.size := by have := hbue.size; (try simp at this); omega
  go_wp2_with fail
  refine (laws_toIntS _ _ _ x2 _ _ (Sl.below H2.out (by (repeat (first | (with_reducible exact Below.refl _ _) | ((with_reducible refine Below.set ?_ ?_ _); rotate_left; (simp <;> omega)) | (with_reducible refine Below.box_ ?_ _) | (with_reducible refine Below.next ?_ (by assumption)))))) q2).mono ?_
  rintro e uk ⟨Y3, nY3, cY3, tY3, rfl, hak, hok, hbuk⟩
  have HY2 := hid hak
  clear hak hok
  obtain ⟨hcuk, hfuk⟩ := bcell hbuk
  have hzuk_0 : w.heap.size < uk.heap.size := by have := hbuk.size; (try simp at this); omega
  have hzuk_1 : ux1.heap.size < uk.heap.size := by have := hbuk.size; (try simp at this); omega
  go_wp2_with fail
  have C := laws_eqIntS X3 Y3 nX3 nY3 cX3 cY3 x2 x2 _ _ uk (Sl.below HX2.out (by (repeat (first | (with_reducible exact Below.refl _ _) | ((with_reducible refine Below.set ?_ ?_ _); rotate_left; (simp <;> omega)) | (with_reducible refine Below.box_ ?_ _) | (with_reducible refine Below.next ?_ (by assumption)))))) HY2.out
  rw [show decide (x2 = x2) = true by simp] at C
  refine C.mono ?_
  clear C
  rintro e ul ⟨rfl, hbul⟩
  go_wp2
  go_ret
  exact ⟨rfl, by (repeat (first | (with_reducible exact Below.refl _ _) | ((with_reducible refine Below.set ?_ ?_ _); rotate_left; (simp <;> omega)) | (with_reducible refine Below.box_ ?_ _) | (with_reducible refine Below.next ?_ (by assumption))))⟩

theorem own : ownKnob Try.prog.godebug = none := by kernel_rfl
theorem laidOut : laidOutB Try.prog = true := by kernel_rfl

set_option maxRecDepth 100000 in
theorem lifted (os : Os) (started : os.Started) (H : Type) (enc : TypeId × Value → H) :
    ReturnsInHanded {} Try.checked os 10 .any (Rows.fnExactIsMarkedSpec.pre6 enc Try.prog Try.f10 Rows.fnExactIsMarkedRow.domain false) (Rows.fnExactIsMarkedSpec.post enc Try.prog Try.f10 false true false false) := by
  refine returnsInHanded_of_change (C := Try.checked) own started (by kernel_rfl) Try.func10
    (ChangeSpec.witness6 (enc := enc) (C := Try.checked) false ⟨#[], #[.slice none 0 0, .agg #[.bool false, .slice none 0 0, .slice none 0 0], .slice none 0 0], []⟩ 8 (by kernel_rfl) (by kernel_rfl) (by kernel_rfl) (by kernel_rfl)) ?_
  intro W base args ds gs before hval0 hW hcnd _
  have hval : ∀ (j : Nat) t v, Try.f10.params[j]? = some t → args[j]? = some v → Value.okWide Try.prog W .any base t v := hval0
  have hW' := hW
  obtain ⟨p, q, hA0, hV, rfl, hfz, hnd⟩ := hW
  have hA : DataW.TrodAll enc Try.prog W 0 (fun _ => true) true Try.f10.params.toList args.toList ds p := hA0
  rw [Try.params10] at hA hval
  obtain ⟨v0, vs0, d0, ds0, p0, q0, hargs, rfl, rfl, h0, r0⟩ := trodAll_cons hA
  obtain ⟨v1, vs1, d1, ds1, p1, q1, rfl, rfl, rfl, h1, r1⟩ := trodAll_cons r0
  obtain ⟨v2, vs2, d2, ds2, p2, q2, rfl, rfl, rfl, h2, r2⟩ := trodAll_cons r1
  obtain ⟨rfl, rfl, rfl⟩ := trodAll_nil r2
  obtain rfl : args = #[v0, v1, v2] := by cases args; simp_all
  obtain ⟨rfl, rfl⟩ := trodVars_none hV
  clear hA0 hval0
  simp only [List.append_nil] at hW'
  obtain ⟨A0, n0, c0, x0, b0, rfl, g0⟩ := Opens.sl oLTRat Try.underlying22 (hval 0 22 v0 rfl rfl) h0
  obtain ⟨x1, b1, g1⟩ := Opens.agg oTRat Try.underlying40 (hval 1 40 v1 rfl rfl) h1
  obtain ⟨A2, n2, c2, x2, b2, rfl, g2⟩ := Opens.sl oLInt Try.underlying24 (hval 2 24 v2 rfl rfl) h2
  refine (walk _ _ _ _ _ _ _ x0 x1 x2 b0 b1 b2 W g0 g1 g2).mono fun e W' ⟨he, hB⟩ => ?_
  subst he
  have l0 : ∀ x ∈ p0, x.block < W.heap.size := fun x hx => hW'.lt x (by simp [hx])
  have l1 : ∀ x ∈ p1, x.block < W.heap.size := fun x hx => hW'.lt x (by simp [hx])
  have l2 : ∀ x ∈ p2, x.block < W.heap.size := fun x hx => hW'.lt x (by simp [hx])
  refine ⟨_, rfl, _, _, _, [], p0 ++ (p1 ++ (p2)), [], hW', trodAll_cons_mk (shut_bool Try.underlying4 _) trodAll_mk0, ?_, rfl, hB.frame _, fun h => by cases h⟩
  have ha := trodAll_cons_mk (Below.trod laidOut (by kernel_rfl) (of_decide_eq_true (by kernel_rfl)) h0 hB l0) (trodAll_cons_mk (Below.trod laidOut (by kernel_rfl) (of_decide_eq_true (by kernel_rfl)) h1 hB l1) (trodAll_cons_mk (Below.trod laidOut (by kernel_rfl) (of_decide_eq_true (by kernel_rfl)) h2 hB l2) trodAll_mk0))
  simp only [List.append_nil] at ha
  exact ha

theorem proved : Rows.FnExactIsMarkedSaid :=
  OpenClaim.holds_of_wide 10 Try.f10 rfl rfl rfl rfl rfl rfl rfl ⟨rfl, rfl, rfl, rfl, rfl⟩ rfl rfl rfl rfl rfl (by kernel_rfl) Try.func10 (by kernel_rfl)
    (of_decide_eq_true (by kernel_rfl)) (by unfold Func.isWrapper; first | (rw [if_pos (by decide +kernel)]; kernel_rfl) | (rw [if_neg (by decide +kernel)]; exact ⟨rfl, rfl⟩))
    (fun os started H enc _ => lifted os started H enc)
#print axioms proved
end Go.Proofs.Ythlpjpcnpcclhaa.fnExactIsMarked
