/- IsProper of the program. -/
import Derived.Test.YthlpjpcnpcclhaaGreatXPt4a
namespace Go.XN
open Go.XB
def properB : List TPoint → Bool
  | [a, b, c] => (ptOkB a && (ptOkB b && ptOkB c)) && decide (0 < rsign (darea a b c))
  | _ => false
end Go.XN
namespace Go.Proofs.YthlpjpcnpcclhaaGreat.X
open Go.RowKit Go.XB Go.XN
attribute [local go_sem] fillBy opAt deps depOf Region.wanted yielded
attribute [local simp] deps depOf MP.eq MP.agg MP.sl Facts
set_option linter.constructorNameAsVariable false

set_option maxRecDepth 10000 in
set_option maxHeartbeats 1000000 in
theorem index_pts (f : Nat) (hf : Known f) (A : Option Addr) (n c : Nat) (xs : List TPoint) (bs : List Nat) (w : World) (p : TPoint → Bool) (hx : Sl w A n c xs bs)
    (hp : ∀ (v : Value) (x : TPoint) (b : List Nat) (w : World), x ∈ xs → Agg w v x b → Calls Tryz.prog f #[v] w (Gives w (.bool (p x)))) :
    Calls Tryz.prog 101 #[.slice A n c, .func (.func f) #[] #[]] w (GivesIdx w (xs.any p)) := by
  have HL := hid hx.1
  have HX := hid hx
  have HP := hid hp
  unfold Known at hf
  have hm : n ≤ maxLen := Nat.le_trans hx.2.1 hx.2.2.1
  unfold maxLen at hm
  clear hx hp
  go_enter Tryz.func101, Tryz.ntmps101
  go_wp2_with fail
  go_loopg [8] n (fun g s8 wr => ∃ k : Nat, k + g = n ∧ s8 = .int .i64 k ∧ Hid ((xs.take k).any p = false) ∧ Below w.heap.size w wr)
  case atStart => exact ⟨0, by omega, rfl, by show (xs.take 0).any p = false; simp, Below.refl _ _⟩
  case round =>
    obtain ⟨k, hk, rfl, ha, hb⟩ := hrel
    rcases Nat.lt_or_ge k n with hkn | hkn
    · obtain ⟨be, offe, x, A1, m1, d1, s1, A2, m2, d2, s2, A4, m4, d4, s4, A5, m5, d5, s5, rfl, hble, hx1, e0, e1, e2, e3, e4, e5, hag⟩ := TPoint.elemA (Sl.below HX.out hb) hkn
      have HX1 := hid hx1
      have HAG := hid hag
      have hki : (k : Int) < n := by omega
      obtain ⟨g, rfl⟩ : ∃ g, gk = g + 1 := ⟨gk - 1, by omega⟩
      have hk' := hid (show k + 1 + g = n by omega)
      have hkj : k + 1 ≤ n := hkn
      clear hx1 hk hkn hag
      go_wp2_with fail
      refine (HP.out _ x _ wr (List.mem_of_getElem? HX1.out) HAG.out).mono ?_
      rintro _ w1 ⟨rfl, hb1⟩
      have hb2 := Below.next hb hb1
      cases hpx : p x
      · have r1 := hid (any_step HX1.out ha.out hpx)
        clear hpx
        go_wp2_with fail
        go_roundg g
        case measure => omega
        case rel => exact ⟨k + 1, hk'.out, by go_num, r1, hb2⟩
      · have r1 := hid (any_at HX1.out hpx)
        clear hpx
        go_wp2
        go_ret
        exact ⟨k, rfl, by rw [r1.out]; simp, hb2⟩
    · have e := hid (show xs.any p = false by
        have := ha.out
        rwa [List.take_of_length_le (by rw [HL.out]; omega)] at this)
      have hki : ¬ ((k : Int) < n) := by omega
      clear hk hkn
      go_wp2
      go_ret
      exact ⟨-1, rfl, by rw [e.out]; rfl, hb⟩

set_option maxHeartbeats 400000 in
theorem contains_pts (f : Nat) (hf : Known f) (A : Option Addr) (n c : Nat) (xs : List TPoint) (bs : List Nat) (w : World) (p : TPoint → Bool) (hx : Sl w A n c xs bs)
    (hp : ∀ (v : Value) (x : TPoint) (b : List Nat) (w : World), x ∈ xs → Agg w v x b → Calls Tryz.prog f #[v] w (Gives w (.bool (p x)))) :
    Calls Tryz.prog 62 #[.slice A n c, .func (.func f) #[] #[]] w (Gives w (.bool (xs.any p))) := by
  have HX := hid hx
  have HP := hid hp
  have HF := hid hf
  clear hx hp hf
  go_enter Tryz.func62, Tryz.ntmps62
  go_wp2_with fail
  refine (index_pts f HF.out A n c xs bs _ p (Sl.below HX.out (by (repeat (first | (with_reducible exact Below.refl _ _) | ((with_reducible refine Below.set ?_ ?_ _); rotate_left; (simp <;> omega)) | (with_reducible refine Below.box_ ?_ _) | (with_reducible refine Below.next ?_ (by assumption)))))) HP.out).mono ?_
  rintro _ w1 ⟨r, rfl, e, hb1⟩
  have E := hid e
  clear e
  go_wp2
  go_ret
  exact ⟨ret_bool E.out, hb1⟩

theorem known_IsProper_1 : Known 63 := fun a w => by kernel_rfl
def ptBad (x : TPoint) : Bool := !ptOkB x
set_option maxHeartbeats 400000 in
theorem impl_IsProper_1 (v : Value) (x : TPoint) (b : List Nat) (w : World) (hx : Agg w v x b) : Calls Tryz.prog 63 #[v] w (Gives w (.bool (ptBad x))) := by
  have HX := hid hx
  obtain ⟨A1, nA1, cA1, s1, A2, nA2, cA2, s2, A4, nA4, cA4, s4, A5, nA5, cA5, s5, rfl, rfl, hs1, hs2, hs4, hs5⟩ := TPoint.agg hx
  clear hs1 hs2 hs4 hs5 hx
  go_enter Tryz.func63, Tryz.ntmps63
  go_wp2_with fail
  refine (impl_IsValidPoint _ x _ _ (Agg.below HX.out (by (repeat (first | (with_reducible exact Below.refl _ _) | ((with_reducible refine Below.set ?_ ?_ _); rotate_left; (simp <;> omega)) | (with_reducible refine Below.box_ ?_ _) | (with_reducible refine Below.next ?_ (by assumption))))))).mono ?_
  rintro _ w1 ⟨rfl, hb1⟩
  go_wp2
  go_ret
  exact ⟨rfl, by (repeat (first | (with_reducible exact Below.refl _ _) | ((with_reducible refine Below.set ?_ ?_ _); rotate_left; (simp <;> omega)) | (with_reducible refine Below.box_ ?_ _) | (with_reducible refine Below.next ?_ (by assumption))))⟩

set_option maxHeartbeats 2000000 in
set_option maxRecDepth 10000 in
theorem impl_IsProper (A : Option Addr) (n c : Nat) (xs : List TPoint) (bs : List Nat) (w : World) (hx : Sl w A n c xs bs) :
    Calls Tryz.prog 30 #[.slice A n c] w (Gives w (.bool (properB xs))) := by
  have HX := hid hx
  by_cases hn : n = 3
  · subst hn
    have hany := hid (show xs.any ptBad = !xs.all ptOkB by rw [List.not_all_eq_any_not]; rfl)
    cases hv : xs.all ptOkB
    · have E := hid (show properB xs = false by
        match xs, hx.1 with
        | [a, b, c'], _ =>
          simp only [List.all_cons, List.all_nil, Bool.and_true] at hv
          show ((ptOkB a && (ptOkB b && ptOkB c')) && _) = false
          rw [hv]; rfl)
      have AN := hid (show xs.any ptBad = true by rw [hany.out, hv]; rfl)
      clear hv hany hx
      go_enter Tryz.func30, Tryz.ntmps30
      go_wp2_with fail
      refine wp_region_walk (by kernel_rfl) (by kernel_rfl) (by kernel_rfl) ?_
      iterate 5
        apply walkM_eq
        case h =>
          intro yq zq wq hC hd
          obtain ⟨hcq, hfq⟩ := bcell hC
          simp at hd
          refine ⟨by go_simp; done, ?_⟩
          go_simp
          first | (go_ints; exact rfl) | (go_ints; rw [if_pos (by omega)]; try exact rfl) | exact rfl | (rw [if_pos (by omega)]; try exact rfl)
      refine walkM_call (MP.eq (.bool true)) ?_ ?_
      · intro yq zq wq hC hd
        obtain ⟨hcq, hfq⟩ := bcell hC
        simp at hd
        refine ⟨by go_simp; done, ?_⟩
        apply Exists.intro
        apply Exists.intro
        constructor
        · go_simp
          exact ⟨rfl, rfl⟩
        · exact gives_eq (by have C := contains_pts 63 known_IsProper_1 A 3 c xs bs wq ptBad (Sl.below HX.out hC) (fun v x b w _ h => impl_IsProper_1 v x b w h); rwa [AN.out] at C)
      iterate 3
        apply walkM_eq
        case h =>
          intro yq zq wq hC hd
          obtain ⟨hcq, hfq⟩ := bcell hC
          simp at hd
          refine ⟨by go_simp; done, ?_⟩
          go_simp
          first | (go_ints; exact rfl) | (go_ints; rw [if_pos (by omega)]; try exact rfl) | exact rfl | (rw [if_pos (by omega)]; try exact rfl)
      iterate 12
        apply walkM_skip
        case h =>
          intro yq zq wq hC hd
          simp at hd
          go_simp
          done
      iterate 2
        apply walkM_eq
        case h =>
          intro yq zq wq hC hd
          obtain ⟨hcq, hfq⟩ := bcell hC
          simp at hd
          refine ⟨by go_simp; done, ?_⟩
          go_simp
          first | (go_ints; exact rfl) | (go_ints; rw [if_pos (by omega)]; try exact rfl) | exact rfl | (rw [if_pos (by omega)]; try exact rfl)
      intro yq zq ux hC hd hdis0
      have hdis := hid hdis0
      clear hdis0
      simp at hd
      go_simp
      clear hd hdis
      go_wp2
      go_ret
      rw [E.out]
      exact ⟨rfl, hC⟩
    · have AN := hid (show xs.any ptBad = false by rw [hany.out, hv]; rfl)
      have HV := hid hv
      clear hv hany
      have HX0 := hx
      obtain ⟨a1, b1, c1, rfl⟩ : ∃ a b c', xs = [a, b, c'] := by
        match xs, hx.1 with
        | [a, b, c'], _ => exact ⟨a, b, c', rfl⟩
      obtain ⟨be0, of0, a2, P1, nP1, cP1, p1, P2, nP2, cP2, p2, P4, nP4, cP4, p4, P5, nP5, cP5, p5, hA0, hbl0, hx0, Pe0, Pe1, Pe2, Pe3, Pe4, Pe5, hg0⟩ := TPoint.elemA HX.out (show 0 < 3 by decide)
      obtain ⟨be1, of1, b2, Q1, nQ1, cQ1, q1, Q2, nQ2, cQ2, q2, Q4, nQ4, cQ4, q4, Q5, nQ5, cQ5, q5, hA1, hbl1, hx1, Qe0, Qe1, Qe2, Qe3, Qe4, Qe5, hg1⟩ := TPoint.elemA HX.out (show 1 < 3 by decide)
      obtain ⟨be2, of2, c2, R1, nR1, cR1, r1, R2, nR2, cR2, r2, R4, nR4, cR4, r4, R5, nR5, cR5, r5, hA2, hbl2, hx2, Re0, Re1, Re2, Re3, Re4, Re5, hg2⟩ := TPoint.elemA HX.out (show 2 < 3 by decide)
      subst hA0
      injection hA1 with hA1; injection hA1 with h1 h2 _; subst h1; subst h2
      injection hA2 with hA2; injection hA2 with h1 h2 _; subst h1; subst h2
      simp at hx0 hx1 hx2
      subst hx0; subst hx1; subst hx2
      simp at Pe0 Pe1 Pe2 Pe3 Pe4 Pe5 Qe0 Qe1 Qe2 Qe3 Qe4 Qe5 Re0 Re1 Re2 Re3 Re4 Re5
      have HA := hid hg0; have HB := hid hg1; have HC := hid hg2
      clear hbl1 hbl2 hg0 hg1 hg2 hx HX0
      have E := hid (show decide (0 < rsign (darea a1 b1 c1)) = properB [a1, b1, c1] by
        have h := HV.out
        simp only [List.all_cons, List.all_nil, Bool.and_true] at h
        show _ = ((ptOkB a1 && (ptOkB b1 && ptOkB c1)) && _)
        rw [h]; rfl)
      clear HV
      go_enter Tryz.func30, Tryz.ntmps30
      go_wp2_with fail
      refine wp_region_walk (by kernel_rfl) (by kernel_rfl) (by kernel_rfl) ?_
      iterate 5
        apply walkM_eq
        case h =>
          intro yq zq wq hC hd
          obtain ⟨hcq, hfq⟩ := bcell hC
          simp at hd
          refine ⟨by go_simp; done, ?_⟩
          go_simp
          first | (go_ints; exact rfl) | (go_ints; rw [if_pos (by omega)]; try exact rfl) | exact rfl | (rw [if_pos (by omega)]; try exact rfl)
      refine walkM_call (MP.eq (.bool false)) ?_ ?_
      · intro yq zq wq hC hd
        obtain ⟨hcq, hfq⟩ := bcell hC
        simp at hd
        refine ⟨by go_simp; done, ?_⟩
        apply Exists.intro
        apply Exists.intro
        constructor
        · go_simp
          exact ⟨rfl, rfl⟩
        · exact gives_eq (by have C := contains_pts 63 known_IsProper_1 _ 3 c [a1, b1, c1] bs wq ptBad (Sl.below HX.out hC) (fun v x b w _ h => impl_IsProper_1 v x b w h); rwa [AN.out] at C)
      iterate 3
        apply walkM_eq
        case h =>
          intro yq zq wq hC hd
          obtain ⟨hcq, hfq⟩ := bcell hC
          simp at hd
          refine ⟨by go_simp; done, ?_⟩
          go_simp
          first | (go_ints; exact rfl) | (go_ints; rw [if_pos (by omega)]; try exact rfl) | exact rfl | (rw [if_pos (by omega)]; try exact rfl)
      iterate 9
        apply walkM_eq
        case h =>
          intro yq zq wq hC hd
          obtain ⟨hcq, hfq⟩ := bcell hC
          simp at hd
          refine ⟨by go_simp; done, ?_⟩
          go_simp
          first | (go_ints; exact rfl) | (go_ints; rw [if_pos (by omega)]; try exact rfl) | exact rfl | (rw [if_pos (by omega)]; try exact rfl)
      refine walkM_call (MP.agg (darea a1 b1 c1)) ?_ ?_
      · intro yq zq wq hC hd
        obtain ⟨hcq, hfq⟩ := bcell hC
        simp at hd
        refine ⟨by go_simp; done, ?_⟩
        apply Exists.intro
        apply Exists.intro
        constructor
        · go_simp
          exact ⟨rfl, rfl⟩
        · exact gives_agg (impl_DoubleArea _ _ _ a1 b1 c1 _ _ _ wq (HA.out.below hC) (HB.out.below hC) (HC.out.below hC))
      refine walkM_call (MP.eq (.int .i64 (rsign (darea a1 b1 c1)))) ?_ ?_
      · intro yq zq wq hC hd
        obtain ⟨hcq, hfq⟩ := bcell hC
        simp at hd
        refine ⟨by go_simp; done, ?_⟩
        apply Exists.intro
        apply Exists.intro
        constructor
        · go_simp
          exact ⟨rfl, rfl⟩
        · exact gives_eq (impl_RatSign _ (darea a1 b1 c1) _ wq hd.1.1)
      iterate 3
        apply walkM_eq
        case h =>
          intro yq zq wq hC hd
          obtain ⟨hcq, hfq⟩ := bcell hC
          simp at hd
          refine ⟨by go_simp; done, ?_⟩
          go_simp
          first | (go_ints; exact rfl) | (go_ints; rw [if_pos (by omega)]; try exact rfl) | exact rfl | (rw [if_pos (by omega)]; try exact rfl)
      intro yq zq ux hC hd hdis0
      have hdis := hid hdis0
      clear hdis0
      simp at hd
      go_simp
      clear hd hdis
      go_wp2
      go_ret
      exact ⟨ret_bool E.out, hC⟩
  · have E := hid (show properB xs = false by
      have hl := hx.1
      match xs with
      | [] => rfl
      | [_] => rfl
      | [_, _] => rfl
      | [_, _, _] => exact absurd hl.symm hn
      | _ :: _ :: _ :: _ :: _ => rfl)
    have hni : ¬ ((n : Int) = 3) := by omega
    have hnb : ((n : Int) == 3) = false := by simp; omega
    clear hx
    go_enter Tryz.func30, Tryz.ntmps30
    go_wp2_with fail
    refine wp_region_walk (by kernel_rfl) (by kernel_rfl) (by kernel_rfl) ?_
    iterate 4
      apply walkM_eq
      case h =>
        intro yq zq wq hC hd
        obtain ⟨hcq, hfq⟩ := bcell hC
        simp at hd
        refine ⟨by go_simp; done, ?_⟩
        go_simp
        first | (go_ints; exact rfl) | (go_ints; rw [if_pos (by omega)]; try exact rfl) | exact rfl | (rw [if_pos (by omega)]; try exact rfl)
    iterate 3
      apply walkM_skip
      case h =>
        intro yq zq wq hC hd
        simp at hd
        go_simp
        done
    iterate 2
      apply walkM_eq
      case h =>
        intro yq zq wq hC hd
        obtain ⟨hcq, hfq⟩ := bcell hC
        simp at hd
        refine ⟨by go_simp; done, ?_⟩
        go_simp
        first | (go_ints; exact rfl) | (go_ints; rw [if_pos (by omega)]; try exact rfl) | exact rfl | (rw [if_pos (by omega)]; try exact rfl)
    iterate 12
      apply walkM_skip
      case h =>
        intro yq zq wq hC hd
        simp at hd
        go_simp
        done
    iterate 2
      apply walkM_eq
      case h =>
        intro yq zq wq hC hd
        obtain ⟨hcq, hfq⟩ := bcell hC
        simp at hd
        refine ⟨by go_simp; done, ?_⟩
        go_simp
        first | (go_ints; exact rfl) | (go_ints; rw [if_pos (by omega)]; try exact rfl) | exact rfl | (rw [if_pos (by omega)]; try exact rfl)
    intro yq zq ux hC hd hdis0
    have hdis := hid hdis0
    clear hdis0
    simp at hd
    go_simp
    clear hd hdis
    go_wp2
    go_ret
    rw [E.out]
    exact ⟨rfl, hC⟩
end Go.Proofs.YthlpjpcnpcclhaaGreat.X
