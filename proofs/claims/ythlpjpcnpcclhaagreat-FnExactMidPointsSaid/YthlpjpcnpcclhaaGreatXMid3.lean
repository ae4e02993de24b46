/- MidPoints of the reference. -/
import Derived.Test.YthlpjpcnpcclhaaGreatXPr2
import Derived.Test.YthlpjpcnpcclhaaGreatXMid2
namespace Go.Proofs.YthlpjpcnpcclhaaGreat.X
open Go.RowKit Go.XB Go.XN
attribute [local go_sem] fillBy opAt deps depOf Region.wanted yielded
attribute [local simp] deps depOf MP.eq MP.agg MP.sl Facts
set_option linter.constructorNameAsVariable false

set_option maxHeartbeats 4000000 in
set_option maxRecDepth 10000 in
theorem spec_MidPoints (A : Option Addr) (n c : Nat) (xs : List TPoint) (bs : List Nat) (w : World) (hx : Sl w A n c xs bs) :
    Calls Tryz.prog 6 #[.slice A n c] w (GivesSl w (midsOf xs)) := by
  have HX := hid hx
  have C0 := hid (spec_IsProper A n c xs bs w hx)
  cases hpr : properB xs
  · have E := hid (mids_false hpr)
    have PR := hid hpr
    clear hpr hx
    go_enter Tryz.func6, Tryz.ntmps6
    go_wp2_with fail
    have C := C0.out
    rw [PR.out] at C
    refine C.mono ?_
    clear C
    rintro _ w1 ⟨rfl, hb1⟩
    go_wp2
    go_ret
    rw [E.out]
    exact ⟨none, 0, 0, [], rfl, Sl.nil _, Own.nil _ _, hb1⟩
  obtain ⟨a1, b1, c1, rfl⟩ := proper_three hpr
  obtain rfl : 3 = n := hx.1
  have HPR := hid hpr
  clear hpr
  obtain ⟨be0, of0, a2, P1, nP1, cP1, p1, P2, nP2, cP2, p2, P4, nP4, cP4, p4, P5, nP5, cP5, p5, hA0, hbl0, hx0, Pe0, Pe1, Pe2, Pe3, Pe4, Pe5, hg0⟩ := TPoint.elemA HX.out (show 0 < 3 by decide)
  obtain ⟨be1, of1, b2, Q1, nQ1, cQ1, q1, Q2, nQ2, cQ2, q2, Q4, nQ4, cQ4, q4, Q5, nQ5, cQ5, q5, hA1, hbl1, hx1, Qe0, Qe1, Qe2, Qe3, Qe4, Qe5, hg1⟩ := TPoint.elemA HX.out (show 1 < 3 by decide)
  obtain ⟨be2, of2, c2, R1, nR1, cR1, r1, R2, nR2, cR2, r2, R4, nR4, cR4, r4, R5, nR5, cR5, r5, hA2, hbl2, hx2, Re0, Re1, Re2, Re3, Re4, Re5, hg2⟩ := TPoint.elemA HX.out (show 2 < 3 by decide)
  subst hA0
  injection hA1 with hA1; injection hA1 with h1 h2 _; subst h1; subst h2
  injection hA2 with hA2; injection hA2 with h1 h2 _; subst h1; subst h2
  simp at hx0 hx1 hx2
  subst hx0; subst hx1; subst hx2
  simp at Pe0 Pe1 Pe2 Pe3 Pe4 Pe5 Qe0 Qe1 Qe2 Qe3 Qe4 Qe5 Re0 Re1 Re2 Re3 Re4 Re5
  have HA := hid hg0; have HB := hid hg1; have HC := hid hg2
  clear hbl1 hbl2 hg0 hg1 hg2 hx
  go_enter Tryz.func6, Tryz.ntmps6
  go_wp2_with fail
  have C := C0.out
  rw [HPR.out] at C
  refine C.mono ?_
  clear C C0
  rintro _ w1 ⟨rfl, hb1⟩
  have HB1 := hid hb1
  obtain ⟨hc_w1, hf_w1⟩ := bcell hb1
  have hbr : be0 < w1.heap.size := by have := hb1.size; omega
  clear hb1
  go_wp2_with fail
  refine wp_region_line 21 (by kernel_rfl) (by kernel_rfl) (by kernel_rfl) (by kernel_rfl) (by kernel_rfl) ?_
  simp only [List.take_succ_cons, List.take_zero, List.drop_succ_cons, List.drop_zero]
  iterate 6
    apply walkM_eq
    case h =>
      intro yq zq wq hC hd
      obtain ⟨hcq, hfq⟩ := bcell hC
      simp at hd
      refine ⟨by go_simp; done, ?_⟩
      go_simp
      first | (go_ints; exact rfl) | (go_ints; rw [if_pos (by omega)]; try exact rfl) | exact rfl | (rw [if_pos (by omega)]; try exact rfl)
  refine walkM_call (MP.agg (pmid b1 c1)) ?_ ?_
  · intro yq zq wq hC hd
    obtain ⟨hcq, hfq⟩ := bcell hC
    simp at hd
    refine ⟨by go_simp; done, ?_⟩
    apply Exists.intro
    apply Exists.intro
    constructor
    · go_simp
      exact ⟨rfl, rfl⟩
    · exact gives_agg (spec_Middle _ _ b1 c1 _ _ wq ((HB.out.below HB1.out).below hC) ((HC.out.below HB1.out).below hC))
  iterate 6
    apply walkM_eq
    case h =>
      intro yq zq wq hC hd
      obtain ⟨hcq, hfq⟩ := bcell hC
      simp at hd
      refine ⟨by go_simp; done, ?_⟩
      go_simp
      first | (go_ints; exact rfl) | (go_ints; rw [if_pos (by omega)]; try exact rfl) | exact rfl | (rw [if_pos (by omega)]; try exact rfl)
  refine walkM_call (MP.agg (pmid c1 a1)) ?_ ?_
  · intro yq zq wq hC hd
    obtain ⟨hcq, hfq⟩ := bcell hC
    simp at hd
    refine ⟨by go_simp; done, ?_⟩
    apply Exists.intro
    apply Exists.intro
    constructor
    · go_simp
      exact ⟨rfl, rfl⟩
    · exact gives_agg (spec_Middle _ _ c1 a1 _ _ wq ((HC.out.below HB1.out).below hC) ((HA.out.below HB1.out).below hC))
  iterate 6
    apply walkM_eq
    case h =>
      intro yq zq wq hC hd
      obtain ⟨hcq, hfq⟩ := bcell hC
      simp at hd
      refine ⟨by go_simp; done, ?_⟩
      go_simp
      first | (go_ints; exact rfl) | (go_ints; rw [if_pos (by omega)]; try exact rfl) | exact rfl | (rw [if_pos (by omega)]; try exact rfl)
  refine walkM_call (MP.agg (pmid a1 b1)) ?_ ?_
  · intro yq zq wq hC hd
    obtain ⟨hcq, hfq⟩ := bcell hC
    simp at hd
    refine ⟨by go_simp; done, ?_⟩
    apply Exists.intro
    apply Exists.intro
    constructor
    · go_simp
      exact ⟨rfl, rfl⟩
    · exact gives_agg (spec_Middle _ _ a1 b1 _ _ wq ((HA.out.below HB1.out).below hC) ((HB.out.below HB1.out).below hC))
  intro yq zq wa hC hd hdis0
  have hdis := hid hdis0
  clear hdis0
  simp at hd
  have q6 := hd.2.2.2.2.2.2.1
  have q13 := hd.2.2.2.2.2.2.2.2.2.2.2.2.2.1
  have q20 := hd.2.2.2.2.2.2.2.2.2.2.2.2.2.2.2.2.2.2.2.2
  obtain ⟨⟨ha, hf6⟩, hr6⟩ := q6
  obtain ⟨⟨hb, hf13⟩, hr13⟩ := q13
  obtain ⟨⟨hc, hf20⟩, hr20⟩ := q20
  obtain ⟨F1, nF1, cF1, fx1, F2, nF2, cF2, fx2, F4, nF4, cF4, fx4, F5, nF5, cF5, fx5, yF, zF, k1, k2, k4, k5⟩ := TPoint.agg ha
  have ATF := hid (show Dat.at_ wa [.bool (pmid b1 c1).x.num.neg, .slice F1 nF1 cF1, .slice F2 nF2 cF2, .bool (pmid b1 c1).y.num.neg, .slice F4 nF4 cF4, .slice F5 nF5 cF5] (pmid b1 c1) (zq 6) by rw [zF]; exact TPoint.shut k1 k2 k4 k5)
  clear k1 k2 k4 k5
  obtain ⟨G1, nG1, cG1, gx1, G2, nG2, cG2, gx2, G4, nG4, cG4, gx4, G5, nG5, cG5, gx5, yG, zG, k1, k2, k4, k5⟩ := TPoint.agg hb
  have ATG := hid (show Dat.at_ wa [.bool (pmid c1 a1).x.num.neg, .slice G1 nG1 cG1, .slice G2 nG2 cG2, .bool (pmid c1 a1).y.num.neg, .slice G4 nG4 cG4, .slice G5 nG5 cG5] (pmid c1 a1) (zq 13) by rw [zG]; exact TPoint.shut k1 k2 k4 k5)
  clear k1 k2 k4 k5
  obtain ⟨H1, nH1, cH1, hx1, H2, nH2, cH2, hx2, H4, nH4, cH4, hx4, H5, nH5, cH5, hx5, yH, zH, k1, k2, k4, k5⟩ := TPoint.agg hc
  have ATH := hid (show Dat.at_ wa [.bool (pmid a1 b1).x.num.neg, .slice H1 nH1 cH1, .slice H2 nH2 cH2, .bool (pmid a1 b1).y.num.neg, .slice H4 nH4 cH4, .slice H5 nH5 cH5] (pmid a1 b1) (zq 20) by rw [zH]; exact TPoint.shut k1 k2 k4 k5)
  clear k1 k2 k4 k5
  have FS := hid (show ∃ cs fss, cs = ([.bool (pmid b1 c1).x.num.neg, .slice F1 nF1 cF1, .slice F2 nF2 cF2, .bool (pmid b1 c1).y.num.neg, .slice F4 nF4 cF4, .slice F5 nF5 cF5, .bool (pmid c1 a1).x.num.neg, .slice G1 nG1 cG1, .slice G2 nG2 cG2, .bool (pmid c1 a1).y.num.neg, .slice G4 nG4 cG4, .slice G5 nG5 cG5, .bool (pmid a1 b1).x.num.neg, .slice H1 nH1 cH1, .slice H2 nH2 cH2, .bool (pmid a1 b1).y.num.neg, .slice H4 nH4 cH4, .slice H5 nH5 cH5] : List Value) ∧ fss = [zq 6, zq 13, zq 20] ∧ Filled wa cs (mids3 a1 b1 c1) fss from ⟨_, _, rfl, rfl, by
    have f1 := Filled.push (Filled.nil wa []) rfl ATF.out
    have f2 := Filled.push f1 rfl ATG.out
    exact Filled.push f2 rfl ATH.out⟩)
  have DS := hid (show (∀ b ∈ zq 6, b ∉ zq 13) ∧ (∀ b ∈ zq 6, b ∉ zq 20) ∧ (∀ b ∈ zq 13, b ∉ zq 20) from ⟨hdis.out 6 13 (by decide) (by decide) (by decide), hdis.out 6 20 (by decide) (by decide) (by decide), hdis.out 13 20 (by decide) (by decide) (by decide)⟩)
  have OW := hid (show Own w1 wa [zq 6, zq 13, zq 20].flatten by
    have h := Free.join (Free.join hf6 hf13 DS.out.1) hf20 (fun x hx h => (List.mem_append.1 hx).elim (fun h1 => DS.out.2.1 x h1 h) (fun h1 => DS.out.2.2 x h1 h))
    have e : [zq 6, zq 13, zq 20].flatten = (zq 6 ++ zq 13) ++ zq 20 := by simp
    rw [e]
    refine Free.own h fun b hb => ?_
    rcases List.mem_append.1 hb with hb | hb
    · rcases List.mem_append.1 hb with hb | hb
      · exact (hr6 b hb).1
      · exact (hr13 b hb).1
    · exact (hr20 b hb).1)
  have HCa := hid hC
  clear hd hdis ha hb hc hf6 hr6 hf13 hr13 hf20 hr20 zF zG zH DS
  obtain ⟨cs, fss, hcs, hfss, hfil⟩ := FS.out
  have G : GivesSl w1 (mids3 a1 b1 c1) (.returned (.slice (some ⟨wa.heap.size, 0, none⟩) 3 3)) (wa.alloc (.cells #[.bool (pmid b1 c1).x.num.neg, .slice F1 nF1 cF1, .slice F2 nF2 cF2, .bool (pmid b1 c1).y.num.neg, .slice F4 nF4 cF4, .slice F5 nF5 cF5, .bool (pmid c1 a1).x.num.neg, .slice G1 nG1 cG1, .slice G2 nG2 cG2, .bool (pmid c1 a1).y.num.neg, .slice G4 nG4 cG4, .slice G5 nG5 cG5, .bool (pmid a1 b1).x.num.neg, .slice H1 nH1 cH1, .slice H2 nH2 cH2, .bool (pmid a1 b1).y.num.neg, .slice H4 nH4 cH4, .slice H5 nH5 cH5] 57)) :=
    push_done (k := 3) (cells := cs) (fss := fss) ⟨by rw [hcs]; rfl, .inr ⟨wa.heap.size, 3, _, rfl, HCa.out.size, heap_alloc_new wa _, Nat.le_refl _, by decide, rfl, by rw [hcs]; rfl⟩⟩ (hfil.below (Below.box _)) rfl (by rw [hfss]; exact OW.out.below (Below.box _)) (by rw [hfss]; intro h; exact absurd (OW.out.lt _ h) (Nat.lt_irrefl _)) (Below.box_ HCa.out _)
  clear hfil hcs hfss FS OW ATF ATG ATH
  obtain ⟨B, m, d, ds, e, hs, ho, hb2⟩ := G
  injection e with e
  injection e with e1 e2 e3
  subst e1; subst e2; subst e3
  have HS := hid hs; have HO := hid (ho.older HB1.out.size)
  have HB2 := hid (Below.next HB1.out hb2)
  clear hs ho hb2 hc_w1 hf_w1
  go_upto_region 3 with fail
  generalize (wa.alloc (.cells #[.bool (pmid b1 c1).x.num.neg, .slice F1 nF1 cF1, .slice F2 nF2 cF2, .bool (pmid b1 c1).y.num.neg, .slice F4 nF4 cF4, .slice F5 nF5 cF5, .bool (pmid c1 a1).x.num.neg, .slice G1 nG1 cG1, .slice G2 nG2 cG2, .bool (pmid c1 a1).y.num.neg, .slice G4 nG4 cG4, .slice G5 nG5 cG5, .bool (pmid a1 b1).x.num.neg, .slice H1 nH1 cH1, .slice H2 nH2 cH2, .bool (pmid a1 b1).y.num.neg, .slice H4 nH4 cH4, .slice H5 nH5 cH5] 57)) = w2 at *
  go_wp2_with fail
  go_loopg [33] 3 (fun g s wr => ∃ k : Nat, k + g = 3 ∧ s = .int .i64 k ∧ Hid (((mids3 a1 b1 c1).take k).all ptOkB = true) ∧ Below w2.heap.size w2 wr)
  case atStart => exact ⟨0, rfl, rfl, rfl, Below.refl _ _⟩
  case round =>
    obtain ⟨k, hk, rfl, hall, hb⟩ := hrel
    rcases Nat.lt_or_ge k 3 with hkn | hkn
    · obtain ⟨be, of, x, D1, nD1, cD1, d1, D2, nD2, cD2, d2, D4, nD4, cD4, d4, D5, nD5, cD5, d5, hAe, hbl, hx1, d0, d1_, d2_, d3_, d4_, d5_, hag⟩ := TPoint.elemA (HS.out.below hb) hkn
      injection hAe with hAe; injection hAe with h1 h2 _; subst h1; subst h2
      simp only [Nat.zero_add] at d0 d1_ d2_ d3_ d4_ d5_
      have HX1 := hid hx1; have HAG := hid hag
      have hki : (k : Int) < 3 := by omega
      have hki0 : (0 : Int) ≤ k := by omega
      obtain ⟨g, rfl⟩ : ∃ g, gk = g + 1 := ⟨gk - 1, by omega⟩
      have hk' := hid (show k + 1 + g = 3 by omega)
      have hk3 : k + 1 ≤ 3 := hkn
      have HB := hid hb
      clear hx1 hk hkn hag
      go_wp2_with fail
      have C := spec_IsValidPoint _ x _ (wr.alloc (.cells #[.bool x.x.num.neg, .slice D1 nD1 cD1, .slice D2 nD2 cD2, .bool x.y.num.neg, .slice D4 nD4 cD4, .slice D5 nD5 cD5] 57)) (HAG.out.below (Below.box _))
      cases ho : ptOkB x
      · have E := hid (show midsOf [a1, b1, c1] = [] from mids_bad HX1.out ho)
        rw [ho] at C
        refine C.mono ?_
        clear C
        rintro _ w5 ⟨rfl, hb5⟩
        go_wp2
        go_ret
        rw [E.out]
        exact ⟨none, 0, 0, [], rfl, Sl.nil _, Own.nil _ _, Below.next (Below.next HB2.out HB.out) (Below.trans (Below.box _) (hb5.mono (by simp)))⟩
      · have NX := hid (show ((mids3 a1 b1 c1).take (k + 1)).all ptOkB = true by rw [take_step HX1.out, List.all_append, hall.out]; simp [ho])
        rw [ho] at C
        refine C.mono ?_
        clear C
        rintro _ w5 ⟨rfl, hb5⟩
        go_wp2_with fail
        go_roundg g
        case measure => omega
        case rel => exact ⟨k + 1, hk'.out, by go_num, NX.out, Below.next HB.out (Below.trans (Below.box _) (hb5.mono (by simp)))⟩
    · have hke : k = 3 := by omega
      subst hke
      have HB := hid hb
      have E := hid (show midsOf [a1, b1, c1] = mids3 a1 b1 c1 from mids_good HPR.out hall.out)
      clear hk hkn
      go_wp2
      go_ret
      rw [E.out]
      exact ⟨_, 3, 3, ds, rfl, HS.out.below HB.out, HO.out.below HB.out, Below.next HB2.out HB.out⟩
end Go.Proofs.YthlpjpcnpcclhaaGreat.X
