/- IsProper of the reference. -/
import Derived.Test.YthlpjpcnpcclhaaGreatXPt4b
import Derived.Test.YthlpjpcnpcclhaaGreatXPr1
namespace Go.Proofs.YthlpjpcnpcclhaaGreat.X
open Go.RowKit Go.XB Go.XN
attribute [local go_sem] fillBy opAt deps depOf Region.wanted yielded
attribute [local simp] deps depOf MP.eq MP.agg MP.sl Facts
set_option linter.constructorNameAsVariable false

set_option maxHeartbeats 4000000 in
set_option maxRecDepth 10000 in
theorem spec_IsProper (A : Option Addr) (n c : Nat) (xs : List TPoint) (bs : List Nat) (w : World) (hx : Sl w A n c xs bs) :
    Calls Tryz.prog 26 #[.slice A n c] w (Gives w (.bool (properB xs))) := by
  have HX := hid hx
  by_cases hn : n = 3
  · subst hn
    have HX0 := hx
    obtain ⟨a1, b1, c1, rfl⟩ : ∃ a b c', xs = [a, b, c'] := by
      match xs, hx.1 with
      | [a, b, c'], _ => exact ⟨a, b, c', rfl⟩
    obtain ⟨be0, of0, a2, P1, nP1, cP1, p1, P2, nP2, cP2, p2, P4, nP4, cP4, p4, P5, nP5, cP5, p5, hA0, hbl0, hx0, Pe0, Pe1, Pe2, Pe3, Pe4, Pe5, hg0⟩ := TPoint.elemA HX.out (show 0 < 3 by decide)
    obtain ⟨be1, of1, b2, Q1, nQ1, cQ1, q1, Q2, nQ2, cQ2, q2, Q4, nQ4, cQ4, q4, Q5, nQ5, cQ5, q5, hA1, hbl1, hx1, Qe0, Qe1, Qe2, Qe3, Qe4, Qe5, hg1⟩ := TPoint.elemA HX.out (show 1 < 3 by decide)
    obtain ⟨be2, of2, c2, R1, nR1, cR1, r1, R2, nR2, cR2, r2, R4, nR4, cR4, r4, R5, nR5, cR5, r5, hA2, hbl2, hx2, Re0, Re1, Re2, Re3, Re4, Re5, hg2⟩ := TPoint.elemA HX.out (show 2 < 3 by decide)
    subst hA0
    injection hA1 with hA1; injection hA1 with h1 h2 _; subst h1; subst h2
    injection hA2 with hA2; injection hA2 with h1 h2 _; subst h1; subst h2
    simp at hx0 hx1 hx2
    subst hx0; subst hx1; subst hx2
    simp at Pe0 Pe1 Pe2 Pe3 Pe4 Pe5 Qe0 Qe1 Qe2 Qe3 Qe4 Qe5 Re0 Re1 Re2 Re3 Re4 Re5
    have HA := hid hg0; have HB := hid hg1; have HC := hid hg2
    clear hbl1 hbl2 hg0 hg1 hg2 hx HX0
    go_enter Tryz.func26, Tryz.ntmps26
    go_wp2_with fail
    refine wp_region_line 11 (by kernel_rfl) (by kernel_rfl) (by kernel_rfl) (by kernel_rfl) (by kernel_rfl) ?_
    simp only [List.take_succ_cons, List.take_zero, List.drop_succ_cons, List.drop_zero]
    iterate 9
      apply walkM_eq
      case h =>
        intro yq zq wq hC hd
        obtain ⟨hcq, hfq⟩ := bcell hC
        simp at hd
        refine ⟨by go_simp; done, ?_⟩
        go_simp
        first | (go_ints; exact rfl) | (go_ints; rw [if_pos (by omega)]; try exact rfl) | exact rfl | (rw [if_pos (by omega)]; try exact rfl)
    refine walkM_call (MP.agg (darea a1 b1 c1)) ?_ ?_
    · intro yq zq wq hC hd
      obtain ⟨hcq, hfq⟩ := bcell hC
      simp at hd
      refine ⟨by go_simp; done, ?_⟩
      apply Exists.intro
      apply Exists.intro
      constructor
      · go_simp
        exact ⟨rfl, rfl⟩
      · exact gives_agg (spec_DoubleArea _ _ _ a1 b1 c1 _ _ _ wq (HA.out.below hC) (HB.out.below hC) (HC.out.below hC))
    refine walkM_new #[.bool false, .slice none 0 0, .slice none 0 0] 43 ?_ ?_
    · intro yq zq wq hC hd
      refine ⟨by go_simp; done, ?_⟩
      go_simp
    intro yq zq wa hC hd hdis0
    have hdis := hid hdis0
    clear hdis0
    simp at hd
    have q3 := hd.2.2.2.2.2.2.2.2.2.1
    have q4 := hd.2.2.2.2.2.2.2.2.2.2
    obtain ⟨⟨ha3, hf3⟩, hr3⟩ := q3
    obtain ⟨B1, B2, B3, Bt, B4, B5, B6, Bs, y3, hz3, _, _⟩ := TRat.agg ha3
    obtain ⟨⟨g1, y4, z4, hg1⟩, hr4⟩ := q4
    rw [y3] at ha3
    rw [z4] at hr4
    have D3 := hid (show ∀ b ∈ zq 9, b ≠ g1 from fun b hb e => by have := hdis.out 9 10 (by decide) (by decide) (by decide) b hb; rw [z4] at this; simp [e] at this)
    have hgr1 := hr4 g1 (by simp)
    obtain ⟨b1c0, b1f0⟩ := box_cell hg1 (j := 0) rfl
    obtain ⟨b1c1, b1f1⟩ := box_cell hg1 (j := 1) rfl
    obtain ⟨b1c2, b1f2⟩ := box_cell hg1 (j := 2) rfl
    have A3 := hid ha3
    have hg1a : w.heap.size ≤ g1 := by omega
    have hg1b : g1 < wa.heap.size := hgr1.2
    obtain ⟨hc_wa, hf_wa⟩ := bcell hC
    have HCa := hid hC
    clear hd hdis hz3 hr3 hr4 hf3 ha3 hg1 z4
    have hbea : be0 < wa.heap.size := by have := hC.size; omega
    have hbeg : be0 ≠ g1 := by omega
    have ED : decide (0 < rsign (darea a1 b1 c1)) = (ratOkB (darea a1 b1 c1) && decide (0 < rsign (darea a1 b1 c1))) := by
      unfold rsign; cases ratOkB (darea a1 b1 c1) <;> simp
    have E := hid (show ((ptOkB a1 && (ptOkB b1 && ptOkB c1)) && (ratOkB (darea a1 b1 c1) && decide (0 < rsign (darea a1 b1 c1)))) = properB [a1, b1, c1] by rw [← ED]; rfl)
    clear ED
    generalize darea a1 b1 c1 = t at *
    have hkeep : ∀ g, g ≠ g1 → (((wa.setCell ⟨g1, 0, none⟩ (.bool t.num.neg)).setCell ⟨g1, 1, none⟩ (.slice B1 B2 B3)).setCell ⟨g1, 2, none⟩ (.slice B4 B5 B6)).heap[g]? = wa.heap[g]? := fun g h1 => heap_setCells g1 [.bool t.num.neg, .slice B1 B2 B3, .slice B4 B5 B6] wa 0 g h1
    have HT := hid (A3.out.keep fun g hg => hkeep g (D3.out g hg))
    have HBW := hid (show Below w.heap.size w (((wa.setCell ⟨g1, 0, none⟩ (.bool t.num.neg)).setCell ⟨g1, 1, none⟩ (.slice B1 B2 B3)).setCell ⟨g1, 2, none⟩ (.slice B4 B5 B6)) from ((hC.setCell (p := ⟨g1, 0, none⟩) hg1a _).setCell (p := ⟨g1, 1, none⟩) hg1a _).setCell (p := ⟨g1, 2, none⟩) hg1a _)
    have k0 : (((wa.setCell ⟨g1, 0, none⟩ (.bool t.num.neg)).setCell ⟨g1, 1, none⟩ (.slice B1 B2 B3)).setCell ⟨g1, 2, none⟩ (.slice B4 B5 B6)).cell? ⟨g1, 0, none⟩ = some (.bool t.num.neg) := by go_simp
    have k1 : (((wa.setCell ⟨g1, 0, none⟩ (.bool t.num.neg)).setCell ⟨g1, 1, none⟩ (.slice B1 B2 B3)).setCell ⟨g1, 2, none⟩ (.slice B4 B5 B6)).cell? ⟨g1, 1, none⟩ = some (.slice B1 B2 B3) := by go_simp
    have k2 : (((wa.setCell ⟨g1, 0, none⟩ (.bool t.num.neg)).setCell ⟨g1, 1, none⟩ (.slice B1 B2 B3)).setCell ⟨g1, 2, none⟩ (.slice B4 B5 B6)).cell? ⟨g1, 2, none⟩ = some (.slice B4 B5 B6) := by go_simp
    have hgw : g1 < (((wa.setCell ⟨g1, 0, none⟩ (.bool t.num.neg)).setCell ⟨g1, 1, none⟩ (.slice B1 B2 B3)).setCell ⟨g1, 2, none⟩ (.slice B4 B5 B6)).heap.size := by simpa using hg1b
    have hbw : be0 < (((wa.setCell ⟨g1, 0, none⟩ (.bool t.num.neg)).setCell ⟨g1, 1, none⟩ (.slice B1 B2 B3)).setCell ⟨g1, 2, none⟩ (.slice B4 B5 B6)).heap.size := by simpa using hbea
    clear hkeep A3 D3
    go_upto_region 3 with fail
    generalize (((wa.setCell ⟨g1, 0, none⟩ (.bool t.num.neg)).setCell ⟨g1, 1, none⟩ (.slice B1 B2 B3)).setCell ⟨g1, 2, none⟩ (.slice B4 B5 B6)) = ws at *
    have HA' := hid (HA.out.below HBW.out); have HB' := hid (HB.out.below HBW.out); have HC' := hid (HC.out.below HBW.out)
    clear HA HB HC HCa hC b1c0 b1c1 b1c2 b1f0 b1f1 b1f2
    obtain ⟨hc_ws, hf_ws⟩ := bcell HBW.out
    clear hc_wa hf_wa
    cases ha : ptOkB a1
    · have OA := hid ha
      rw [ha] at E
      clear ha
      go_wp2_with fail
      have C := spec_IsValidPoint _ a1 _ ws HA'.out
      rw [OA.out] at C
      refine C.mono ?_
      clear C
      rintro _ v1 ⟨rfl, hv1⟩
      obtain ⟨hc_1, hf_1⟩ := bcell hv1
      have hs1 := hv1.size
      have hbe1 : be0 < v1.heap.size := by omega
      have hgg1 : g1 < v1.heap.size := by omega
      go_wp2
      go_ret
      exact ⟨ret_bool E.out, Below.next HBW.out hv1⟩
    have OA := hid ha
    rw [ha] at E
    clear ha
    cases ha : ptOkB b1
    · have OB := hid ha
      rw [ha] at E
      clear ha
      go_wp2_with fail
      have C := spec_IsValidPoint _ a1 _ ws HA'.out
      rw [OA.out] at C
      refine C.mono ?_
      clear C
      rintro _ v1 ⟨rfl, hv1⟩
      obtain ⟨hc_1, hf_1⟩ := bcell hv1
      have hs1 := hv1.size
      have hbe1 : be0 < v1.heap.size := by omega
      have hgg1 : g1 < v1.heap.size := by omega
      go_wp2_with fail
      have C := spec_IsValidPoint _ b1 _ v1 (HB'.out.below hv1)
      rw [OB.out] at C
      refine C.mono ?_
      clear C
      rintro _ v2 ⟨rfl, hv2⟩
      obtain ⟨hc_2, hf_2⟩ := bcell hv2
      have hs2 := hv2.size
      have hbe2 : be0 < v2.heap.size := by omega
      have hgg2 : g1 < v2.heap.size := by omega
      go_wp2
      go_ret
      exact ⟨ret_bool E.out, Below.next (Below.next HBW.out hv1) hv2⟩
    have OB := hid ha
    rw [ha] at E
    clear ha
    cases ha : ptOkB c1
    · have OC := hid ha
      rw [ha] at E
      clear ha
      go_wp2_with fail
      have C := spec_IsValidPoint _ a1 _ ws HA'.out
      rw [OA.out] at C
      refine C.mono ?_
      clear C
      rintro _ v1 ⟨rfl, hv1⟩
      obtain ⟨hc_1, hf_1⟩ := bcell hv1
      have hs1 := hv1.size
      have hbe1 : be0 < v1.heap.size := by omega
      have hgg1 : g1 < v1.heap.size := by omega
      go_wp2_with fail
      have C := spec_IsValidPoint _ b1 _ v1 (HB'.out.below hv1)
      rw [OB.out] at C
      refine C.mono ?_
      clear C
      rintro _ v2 ⟨rfl, hv2⟩
      obtain ⟨hc_2, hf_2⟩ := bcell hv2
      have hs2 := hv2.size
      have hbe2 : be0 < v2.heap.size := by omega
      have hgg2 : g1 < v2.heap.size := by omega
      go_wp2_with fail
      have C := spec_IsValidPoint _ c1 _ v2 ((HC'.out.below hv1).below hv2)
      rw [OC.out] at C
      refine C.mono ?_
      clear C
      rintro _ v3 ⟨rfl, hv3⟩
      obtain ⟨hc_3, hf_3⟩ := bcell hv3
      have hs3 := hv3.size
      have hbe3 : be0 < v3.heap.size := by omega
      have hgg3 : g1 < v3.heap.size := by omega
      go_wp2
      go_ret
      exact ⟨ret_bool E.out, Below.next (Below.next (Below.next HBW.out hv1) hv2) hv3⟩
    have OC := hid ha
    rw [ha] at E
    clear ha
    go_wp2_with fail
    have C := spec_IsValidPoint _ a1 _ ws HA'.out
    rw [OA.out] at C
    refine C.mono ?_
    clear C
    rintro _ v1 ⟨rfl, hv1⟩
    obtain ⟨hc_1, hf_1⟩ := bcell hv1
    have hs1 := hv1.size
    have hbe1 : be0 < v1.heap.size := by omega
    have hgg1 : g1 < v1.heap.size := by omega
    go_wp2_with fail
    have C := spec_IsValidPoint _ b1 _ v1 (HB'.out.below hv1)
    rw [OB.out] at C
    refine C.mono ?_
    clear C
    rintro _ v2 ⟨rfl, hv2⟩
    obtain ⟨hc_2, hf_2⟩ := bcell hv2
    have hs2 := hv2.size
    have hbe2 : be0 < v2.heap.size := by omega
    have hgg2 : g1 < v2.heap.size := by omega
    go_wp2_with fail
    have C := spec_IsValidPoint _ c1 _ v2 ((HC'.out.below hv1).below hv2)
    rw [OC.out] at C
    refine C.mono ?_
    clear C
    rintro _ v3 ⟨rfl, hv3⟩
    obtain ⟨hc_3, hf_3⟩ := bcell hv3
    have hs3 := hv3.size
    have hbe3 : be0 < v3.heap.size := by omega
    have hgg3 : g1 < v3.heap.size := by omega
    go_wp2_with fail
    have C := spec_RatOk _ t _ v3 (((HT.out.below hv1).below hv2).below hv3)
    cases ha : ratOkB t
    · rw [ha] at E C
      clear ha
      refine C.mono ?_
      clear C
      rintro _ v4 ⟨rfl, hv4⟩
      go_wp2
      go_ret
      exact ⟨ret_bool E.out, Below.next (Below.next (Below.next (Below.next HBW.out hv1) hv2) hv3) hv4⟩
    rw [ha] at E C
    clear ha
    refine C.mono ?_
    clear C
    rintro _ v4 ⟨rfl, hv4⟩
    obtain ⟨hc_4, hf_4⟩ := bcell hv4
    have hs4 := hv4.size
    have hgg4 : g1 < v4.heap.size := by omega
    go_wp2_with fail
    refine (spec_RatSign _ t _ v4 ((((HT.out.below hv1).below hv2).below hv3).below hv4)).mono ?_
    rintro _ v5 ⟨rfl, hv5⟩
    go_wp2
    go_ret
    exact ⟨ret_bool E.out, Below.next (Below.next (Below.next (Below.next (Below.next HBW.out hv1) hv2) hv3) hv4) hv5⟩
  · have E := hid (show properB xs = false by
      have hl := hx.1
      match xs with
      | [] => rfl
      | [_] => rfl
      | [_, _] => rfl
      | [_, _, _] => exact absurd hl.symm hn
      | _ :: _ :: _ :: _ :: _ => rfl)
    have hni : ¬ ((n : Int) = 3) := by omega
    have hnb : ((n : Int) == 3) = false := by simp; omega
    clear hx
    go_enter Tryz.func26, Tryz.ntmps26
    go_wp2
    go_ret
    rw [E.out]
    exact ⟨rfl, Below.refl _ _⟩
end Go.Proofs.YthlpjpcnpcclhaaGreat.X
