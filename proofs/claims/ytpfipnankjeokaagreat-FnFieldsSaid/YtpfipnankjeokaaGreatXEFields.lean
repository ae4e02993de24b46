/- FnFields: for every input,the flux of a constant field on a coarse mesh belongs to that field: the law returns true,and its argument reads as before. No condition. -/
import Derived.Test.YtpfipnankjeokaaGreatY2
import Derived.Test.YtpfipnankjeokaaGreatY4
import Derived.Test.YtpfipnankjeokaaGreatY22
import Derived.WalkLawsBesides
import Derived.ProofKit
import Derived.OpenShut
namespace Go.Proofs.YtpfipnankjeokaaGreat.fnFields
open Go.ChangeShapes Go.WideShapes Go.ChangeAt Go.RowKit Go.XB Go.XN Go.Proofs.YtpfipnankjeokaaGreat.X
attribute [local go_sem] fillBy Go.XB.opAt deps depOf Region.wanted yielded
attribute [local simp] deps depOf MP.eq MP.agg MP.sl Facts
set_option linter.constructorNameAsVariable false

theorem oTByte : Opens Tryz.prog 5 TByte := fun enc w fuel cs y h => by
 obtain ⟨n,rfl, _,hn⟩ := DataW.trod_int Tryz.underlying5 h
 exact ⟨⟨n⟩, [],rfl,rfl,by
  simp [Lit.wf,IntKind.min,IntKind.max,IntKind.signed,IntKind.bits] at hn
  show 0 ≤ n ∧ n < 256
  omega⟩
theorem oLTByte : Opens Tryz.prog 22 (List TByte) := Opens.slice Tryz.underlying22 (by kernel_rfl) oTByte

set_option maxHeartbeats 16000000 in
set_option maxRecDepth 10000 in
theorem walk (A0 : Option Addr) (n0 c0 : Nat) (x0 : List TByte) (b0 : List Nat) (w : World) (h0 : Sl w A0 n0 c0 x0 b0) :
  Calls Tryz.prog 3 #[.slice A0 n0 c0] w (Gives w (.bool true)) := by
 have H0 := hid h0
 have hm0 : n0 ≤ maxLen := Nat.le_trans h0.2.1 h0.2.2.1
 unfold maxLen at hm0
 clear h0
 by_cases hbig : (1048576 : Int) < n0
 ·go_enter Tryz.func3,Tryz.ntmps3
  go_wp2
  go_ret
  exact ⟨rfl,Below.refl _ _⟩
 have hn : n0 ≤ 1048576 := by omega
 go_enter Tryz.func3,Tryz.ntmps3
 go_wp2_with fail
 refine (spec_MakeCoarse _ _ _ x0 _ w H0.out hn).mono ?_
 rintro _ w1 ⟨m,v1,s1,rfl,hm,ha1,hb1⟩
 have HA1 := hid ha1
 obtain ⟨P,nP,cP,sP,T,nT,cT,sT,rfl,hz,hsP,hsT⟩ := TMesh.agg ha1
 have HM := hid hm; have BW1 := hid hb1
 have HT := hid hsT.1
 have HZ1 := hid hz
 clear hm ha1 hb1 hz hsP hsT
 go_wp2_with fail
 have HBx := hid (Below.box (w := w1) (.cells #[.slice P nP cP, .slice T nT cT] 26))
 refine (spec_MakePoint2 _ _ _ x0 _ (w1.alloc (.cells #[.slice P nP cP, .slice T nT cT] 26)) ((H0.out.below BW1.out).below HBx.out) hn).mono ?_
 rintro _ w2 ⟨x,y,q,v2,s2,rfl,hin,ha2,hb2⟩
 obtain ⟨xs,ys,hG⟩ := coarse_good HM.out hin
 have HG := hid hG
 generalize ptD x y q = d at *
 obtain ⟨E1,nE1,cE1,e1,E2,nE2,cE2,e2,E4,nE4,cE4,e4,E5,nE5,cE5,e5,rfl,hz2, _, _, _, _⟩ := TPoint.agg ha2
 have HA2 := hid ha2
 have HB12 := hid (show Below w1.heap.size w1 w2 from Below.trans (Below.box _) (hb2.mono (by simp)))
 have HM2 := hid (HA1.out.below HB12.out)
 have m0 : w2.cell? ⟨w1.heap.size,0,none⟩ = some (.slice P nP cP) := (hb2.cell (p := ⟨w1.heap.size,0,none⟩) (by simp)).trans (by go_simp)
 have m1 : w2.cell? ⟨w1.heap.size,1,none⟩ = some (.slice T nT cT) := (hb2.cell (p := ⟨w1.heap.size,1,none⟩) (by simp)).trans (by go_simp)
 have hl2 : w1.heap.size < w2.heap.size := by have := hb2.size; simp at this; omega
 have BW2 := hid (Below.next BW1.out HB12.out)
 have hT48 : nT ≤ 48 := by rw [← HT.out]; exact hG.mesh.t48
 have hT48i : (nT : Int) ≤ 48 := by omega
 clear hin hG ha2 hb2 hz2
 go_wp2_with fail
 have HBy := hid (Below.box (w := w2) (.cells #[.bool d.x.num.neg, .slice E1 nE1 cE1, .slice E2 nE2 cE2, .bool d.y.num.neg, .slice E4 nE4 cE4, .slice E5 nE5 cE5] 34))
 refine (impl_ConstantFlux _ m _ xs ys _ d _ (w2.alloc (.cells #[.bool d.x.num.neg, .slice E1 nE1 cE1, .slice E2 nE2 cE2, .bool d.y.num.neg, .slice E4 nE4 cE4, .slice E5 nE5 cE5] 34)) (HM2.out.below HBy.out) HG.out.mesh (HA2.out.below HBy.out) HG.out.dok HG.out.ein HG.out.den).mono ?_
 rintro _ w3 ⟨F,nF,cF,fb,rfl,hsf,hof,hb3⟩
 have HB23 := hid (show Below w2.heap.size w2 w3 from Below.trans (Below.box _) (hb3.mono (by simp)))
 have HF3 := hid hsf
 have hnF : 0 < nF := by rw [← hsf.1]; exact HG.out.len
 have hnFi : (0 : Int) < nF := by omega
 have HM3 := hid (HM2.out.below HB23.out)
 have HA3 := hid (HA2.out.below HB23.out)
 have HFI := hid (show FluxI m xs ys (cflux m d) from ⟨HG.out.mesh,by unfold cflux; rw [List.length_map],HG.out.fok⟩)
 have p0 : w3.cell? ⟨w2.heap.size,0,none⟩ = some (.bool d.x.num.neg) := (hb3.cell (p := ⟨w2.heap.size,0,none⟩) (by simp)).trans (by go_simp)
 have p1 : w3.cell? ⟨w2.heap.size,1,none⟩ = some (.slice E1 nE1 cE1) := (hb3.cell (p := ⟨w2.heap.size,1,none⟩) (by simp)).trans (by go_simp)
 have p2 : w3.cell? ⟨w2.heap.size,2,none⟩ = some (.slice E2 nE2 cE2) := (hb3.cell (p := ⟨w2.heap.size,2,none⟩) (by simp)).trans (by go_simp)
 have p3 : w3.cell? ⟨w2.heap.size,3,none⟩ = some (.bool d.y.num.neg) := (hb3.cell (p := ⟨w2.heap.size,3,none⟩) (by simp)).trans (by go_simp)
 have p4 : w3.cell? ⟨w2.heap.size,4,none⟩ = some (.slice E4 nE4 cE4) := (hb3.cell (p := ⟨w2.heap.size,4,none⟩) (by simp)).trans (by go_simp)
 have p5 : w3.cell? ⟨w2.heap.size,5,none⟩ = some (.slice E5 nE5 cE5) := (hb3.cell (p := ⟨w2.heap.size,5,none⟩) (by simp)).trans (by go_simp)
 have q0 : w3.cell? ⟨w1.heap.size,0,none⟩ = some (.slice P nP cP) := (HB23.out.cell (p := ⟨w1.heap.size,0,none⟩) hl2).trans m0
 have q1 : w3.cell? ⟨w1.heap.size,1,none⟩ = some (.slice T nT cT) := (HB23.out.cell (p := ⟨w1.heap.size,1,none⟩) hl2).trans m1
 have hl3 : w2.heap.size < w3.heap.size := by have := hb3.size; simp at this; omega
 have hl31 : w1.heap.size < w3.heap.size := by omega
 have BW3 := hid (Below.next BW2.out HB23.out)
 generalize hfl : cflux m d = fl at *
 have HFL := hid hfl
 clear hsf hof hb3 m0 m1 hfl
 go_wp2_with fail
 go_loopg [21] nT (fun g s wr => ∃ k : Nat,k + g = nT ∧ s = .int .i64 k ∧ Below w3.heap.size w3 wr)
 case atStart => exact ⟨0,by omega,rfl,Below.refl _ _⟩
 case round =>
  obtain ⟨k,hk,rfl,hb⟩ := hrel
  have HB := hid hb
  obtain ⟨hc_wr,hf_wr⟩ := bcell hb
  have hsr := hb.size
  have hr1 : w1.heap.size < wr.heap.size := by omega
  have hr2 : w2.heap.size < wr.heap.size := by omega
  rcases Nat.lt_or_ge k nT with hkn | hkn
  ·have hki : (k : Int) < nT := by omega
   obtain ⟨g,rfl⟩ : ∃ g,gk = g + 1 := ⟨gk - 1,by omega⟩
   have hk' := hid (show k + 1 + g = nT by omega)
   obtain ⟨t,ht⟩ : ∃ t,m.triangles[k]? = some t := ⟨_,List.getElem?_eq_getElem (by rw [HT.out]; exact hkn)⟩
   have HK := hid ht
   have TG := hid (show TriGood m fl d k t by rw [← HFL.out]; exact HG.out.tri k t ht)
   have KL := hid (List.getElem?_eq_some_iff.1 ht).1
   have HMr := hid (HM3.out.below HB.out); have HAr := hid (HA3.out.below HB.out); have HFr := hid (HF3.out.below HB.out)
   clear hk hkn ht hb
   go_wp2_with fail
   refine (impl_Corners _ m _ k t wr HMr.out HK.out (HG.out.mesh.tri t (List.mem_of_getElem? HK.out)).1 HG.out.mesh.ok HG.out.mesh.n40 HG.out.mesh.t48).mono ?_
   rintro _ w4 ⟨C,nC,cC,sC,rfl,hsC,hoC,hb4⟩
   obtain rfl : 3 = nC := hsC.1
   have HC := hid (show Sl w4 C 3 cC [ptAt m.points t.a,ptAt m.points t.b,ptAt m.points t.c] sC from hsC)
   have HB4 := hid hb4
   obtain ⟨hc_w4,hf_w4⟩ := bcell hb4
   have hs4 := hb4.size
   have h41 : w1.heap.size < w4.heap.size := by omega
   have h42 : w2.heap.size < w4.heap.size := by omega
   have HM4 := hid (HMr.out.below hb4); have HA4 := hid (HAr.out.below hb4); have HF4 := hid (HFr.out.below hb4)
   clear hsC hoC hb4
   go_wp2_with fail
   refine wp_region_walk (by kernel_rfl) (by kernel_rfl) (by kernel_rfl) ?_
   iterate 4
    apply walkM_eq
    case h =>
     intro yq zq wq hC hd
     obtain ⟨hcq,hfq⟩ := bcell hC
     simp at hd
     refine ⟨by go_simp; done, ?_⟩
     go_simp
     first | (go_ints; exact rfl) | (go_ints; rw [if_pos (by omega)]; try exact rfl) | exact rfl | (rw [if_pos (by omega)]; try exact rfl)
   refine walkM_call (MP.agg (centP (ptAt m.points t.a) (ptAt m.points t.b) (ptAt m.points t.c))) ?_ ?_
   ·intro yq zq wq hC hd
    obtain ⟨hcq,hfq⟩ := bcell hC
    simp at hd
    refine ⟨by go_simp; done, ?_⟩
    apply Exists.intro
    apply Exists.intro
    constructor
    ·go_simp
     exact ⟨rfl,rfl⟩
    ·exact gives_agg (impl_Centroid C cC _ _ _ _ wq (HC.out.below (by (with_reducible repeat first | exact Below.refl _ _ | (refine Below.set ?_ ?_ _; rotate_left; (simp <;> omega)) | refine Below.box_ ?_ _ | refine Below.next ?_ (by assumption)))) TG.out.pr)
   refine walkM_call (MP.agg d) ?_ ?_
   ·intro yq zq wq hC hd
    obtain ⟨hcq,hfq⟩ := bcell hC
    simp at hd
    refine ⟨by go_simp; done, ?_⟩
    apply Exists.intro
    apply Exists.intro
    constructor
    ·go_simp
     exact ⟨rfl,rfl⟩
    ·exact gives_agg (by have C9 := impl_FieldAt _ m _ xs ys F nF cF fl fb k t _ (centP (ptAt m.points t.a) (ptAt m.points t.b) (ptAt m.points t.c)) _ wq (HM4.out.below (by (with_reducible repeat first | exact Below.refl _ _ | (refine Below.set ?_ ?_ _; rotate_left; (simp <;> omega)) | refine Below.box_ ?_ _ | refine Below.next ?_ (by assumption)))) (HF4.out.below (by (with_reducible repeat first | exact Below.refl _ _ | (refine Below.set ?_ ?_ _; rotate_left; (simp <;> omega)) | refine Below.box_ ?_ _ | refine Below.next ?_ (by assumption)))) HFI.out HK.out TG.out.si (by first | exact hd.2.2.2.1 | exact hd.2.2.2.1.1 | exact hd.1 | exact hd.1.1) TG.out.co TG.out.d1 TG.out.d2; rw [TG.out.fa] at C9; exact C9)
   apply walkM_eq
   case h =>
    intro yq zq wq hC hd
    obtain ⟨hcq,hfq⟩ := bcell hC
    simp at hd
    refine ⟨by go_simp; done, ?_⟩
    go_simp
    first | (go_ints; exact rfl) | (go_ints; rw [if_pos (by omega)]; try exact rfl) | exact rfl | (rw [if_pos (by omega)]; try exact rfl)
   refine walkM_call (MP.eq (.bool true)) ?_ ?_
   ·intro yq zq wq hC hd
    obtain ⟨hcq,hfq⟩ := bcell hC
    simp at hd
    refine ⟨by go_simp; done, ?_⟩
    apply Exists.intro
    apply Exists.intro
    constructor
    ·go_simp
     exact ⟨rfl,rfl⟩
    ·exact gives_eq (by have C9 := impl_SamePoint _ _ d d _ _ wq (by first | exact hd.1.1 | exact hd.1) (HA4.out.below (by (with_reducible repeat first | exact Below.refl _ _ | (refine Below.set ?_ ?_ _; rotate_left; (simp <;> omega)) | refine Below.box_ ?_ _ | refine Below.next ?_ (by assumption)))); rw [decide_eq_true rfl] at C9; exact C9)
   iterate 5
    apply walkM_eq
    case h =>
     intro yq zq wq hC hd
     obtain ⟨hcq,hfq⟩ := bcell hC
     simp at hd
     refine ⟨by go_simp; done, ?_⟩
     go_simp
     first | (go_ints; exact rfl) | (go_ints; rw [if_pos (by omega)]; try exact rfl) | exact rfl | (rw [if_pos (by omega)]; try exact rfl)
   refine walkM_call (MP.agg (outP (edgesL m.triangles) fl k)) ?_ ?_
   ·intro yq zq wq hC hd
    obtain ⟨hcq,hfq⟩ := bcell hC
    simp at hd
    refine ⟨by go_simp; done, ?_⟩
    apply Exists.intro
    apply Exists.intro
    constructor
    ·go_simp
     exact ⟨rfl,rfl⟩
    ·exact gives_agg (impl_OutflowOf _ m _ xs ys F nF cF fl fb k wq (HM4.out.below (by (with_reducible repeat first | exact Below.refl _ _ | (refine Below.set ?_ ?_ _; rotate_left; (simp <;> omega)) | refine Below.box_ ?_ _ | refine Below.next ?_ (by assumption)))) (HF4.out.below (by (with_reducible repeat first | exact Below.refl _ _ | (refine Below.set ?_ ?_ _; rotate_left; (simp <;> omega)) | refine Below.box_ ?_ _ | refine Below.next ?_ (by assumption)))) HFI.out KL.out)
   refine walkM_call (MP.eq (.int .i64 0)) ?_ ?_
   ·intro yq zq wq hC hd
    obtain ⟨hcq,hfq⟩ := bcell hC
    simp at hd
    refine ⟨by go_simp; done, ?_⟩
    apply Exists.intro
    apply Exists.intro
    constructor
    ·go_simp
     exact ⟨rfl,rfl⟩
    ·exact gives_eq (by have C9 := impl_RatSign _ (outP (edgesL m.triangles) fl k) _ wq (by first | exact hd.1.1 | exact hd.1); rw [TG.out.ou] at C9; exact C9)
   iterate 6
    apply walkM_eq
    case h =>
     intro yq zq wq hC hd
     obtain ⟨hcq,hfq⟩ := bcell hC
     simp at hd
     refine ⟨by go_simp; done, ?_⟩
     go_simp
     first | (go_ints; exact rfl) | (go_ints; rw [if_pos (by omega)]; try exact rfl) | exact rfl | (rw [if_pos (by omega)]; try exact rfl)
   refine walkM_call (MP.agg (sqOver (ptAt m.points t.a) (ptAt m.points t.b) (ptAt m.points t.c) (flowsL (edgesL m.triangles) fl k t) (ptI 0 0))) ?_ ?_
   ·intro yq zq wq hC hd
    obtain ⟨hcq,hfq⟩ := bcell hC
    simp at hd
    refine ⟨by go_simp; done, ?_⟩
    apply Exists.intro
    apply Exists.intro
    constructor
    ·go_simp
     exact ⟨rfl,rfl⟩
    ·exact gives_agg (impl_FieldSquare _ m _ xs ys F nF cF fl fb k t wq (HM4.out.below (by (with_reducible repeat first | exact Below.refl _ _ | (refine Below.set ?_ ?_ _; rotate_left; (simp <;> omega)) | refine Below.box_ ?_ _ | refine Below.next ?_ (by assumption)))) (HF4.out.below (by (with_reducible repeat first | exact Below.refl _ _ | (refine Below.set ?_ ?_ _; rotate_left; (simp <;> omega)) | refine Below.box_ ?_ _ | refine Below.next ?_ (by assumption)))) HFI.out HK.out TG.out.si TG.out.d1 TG.out.d2)
   apply walkM_eq
   case h =>
    intro yq zq wq hC hd
    obtain ⟨hcq,hfq⟩ := bcell hC
    simp at hd
    refine ⟨by go_simp; done, ?_⟩
    go_simp
    first | (go_ints; exact rfl) | (go_ints; rw [if_pos (by omega)]; try exact rfl) | exact rfl | (rw [if_pos (by omega)]; try exact rfl)
   refine walkM_call (MP.agg (areaP (ptAt m.points t.a) (ptAt m.points t.b) (ptAt m.points t.c))) ?_ ?_
   ·intro yq zq wq hC hd
    obtain ⟨hcq,hfq⟩ := bcell hC
    simp at hd
    refine ⟨by go_simp; done, ?_⟩
    apply Exists.intro
    apply Exists.intro
    constructor
    ·go_simp
     exact ⟨rfl,rfl⟩
    ·exact gives_agg (impl_AreaOf C cC _ _ _ _ wq (HC.out.below (by (with_reducible repeat first | exact Below.refl _ _ | (refine Below.set ?_ ?_ _; rotate_left; (simp <;> omega)) | refine Below.box_ ?_ _ | refine Below.next ?_ (by assumption)))) TG.out.pr)
   iterate 2
    apply walkM_eq
    case h =>
     intro yq zq wq hC hd
     obtain ⟨hcq,hfq⟩ := bcell hC
     simp at hd
     refine ⟨by go_simp; done, ?_⟩
     go_simp
     first | (go_ints; exact rfl) | (go_ints; rw [if_pos (by omega)]; try exact rfl) | exact rfl | (rw [if_pos (by omega)]; try exact rfl)
   refine walkM_call (MP.agg (inner d d)) ?_ ?_
   ·intro yq zq wq hC hd
    obtain ⟨hcq,hfq⟩ := bcell hC
    simp at hd
    refine ⟨by go_simp; done, ?_⟩
    apply Exists.intro
    apply Exists.intro
    constructor
    ·go_simp
     exact ⟨rfl,rfl⟩
    ·exact gives_agg (impl_Inner _ _ d d _ _ wq (HA4.out.below (by (with_reducible repeat first | exact Below.refl _ _ | (refine Below.set ?_ ?_ _; rotate_left; (simp <;> omega)) | refine Below.box_ ?_ _ | refine Below.next ?_ (by assumption)))) (HA4.out.below (by (with_reducible repeat first | exact Below.refl _ _ | (refine Below.set ?_ ?_ _; rotate_left; (simp <;> omega)) | refine Below.box_ ?_ _ | refine Below.next ?_ (by assumption)))))
   refine walkM_call (MP.agg (rmul (areaP (ptAt m.points t.a) (ptAt m.points t.b) (ptAt m.points t.c)) (inner d d))) ?_ ?_
   ·intro yq zq wq hC hd
    obtain ⟨hcq,hfq⟩ := bcell hC
    simp at hd
    refine ⟨by go_simp; done, ?_⟩
    apply Exists.intro
    apply Exists.intro
    constructor
    ·go_simp
     exact ⟨rfl,rfl⟩
    ·exact gives_agg (impl_RatMul _ _ (areaP (ptAt m.points t.a) (ptAt m.points t.b) (ptAt m.points t.c)) (inner d d) _ _ wq (by first | exact hd.1.1 | exact hd.1) (by first | exact hd.2.1.1 | exact hd.2.1))
   refine walkM_call (MP.eq (.bool true)) ?_ ?_
   ·intro yq zq wq hC hd
    obtain ⟨hcq,hfq⟩ := bcell hC
    simp at hd
    refine ⟨by go_simp; done, ?_⟩
    apply Exists.intro
    apply Exists.intro
    constructor
    ·go_simp
     exact ⟨rfl,rfl⟩
    ·exact gives_eq (by have C9 := impl_RatEqual _ _ (sqOver (ptAt m.points t.a) (ptAt m.points t.b) (ptAt m.points t.c) (flowsL (edgesL m.triangles) fl k t) (ptI 0 0)) (rmul (areaP (ptAt m.points t.a) (ptAt m.points t.b) (ptAt m.points t.c)) (inner d d)) _ _ wq (by first | exact hd.1.1 | exact hd.1) (by first | exact hd.2.1.1 | exact hd.2.1); rw [decide_eq_true TG.out.sq] at C9; exact C9)
   iterate 4
    apply walkM_eq
    case h =>
     intro yq zq wq hC hd
     obtain ⟨hcq,hfq⟩ := bcell hC
     simp at hd
     refine ⟨by go_simp; done, ?_⟩
     go_simp
     first | (go_ints; exact rfl) | (go_ints; rw [if_pos (by omega)]; try exact rfl) | exact rfl | (rw [if_pos (by omega)]; try exact rfl)
   refine walkM_call (MP.sl (mids3 (ptAt m.points t.a) (ptAt m.points t.b) (ptAt m.points t.c))) ?_ ?_
   ·intro yq zq wq hC hd
    obtain ⟨hcq,hfq⟩ := bcell hC
    simp at hd
    refine ⟨by go_simp; done, ?_⟩
    apply Exists.intro
    apply Exists.intro
    constructor
    ·go_simp
     exact ⟨rfl,rfl⟩
    ·exact gives_sl (by have C9 := impl_MidPoints (C) 3 cC _ _ wq (HC.out.below (by (with_reducible repeat first | exact Below.refl _ _ | (refine Below.set ?_ ?_ _; rotate_left; (simp <;> omega)) | refine Below.box_ ?_ _ | refine Below.next ?_ (by assumption)))); rw [TG.out.mi] at C9; exact C9)
   refine walkM_eq (.int .i64 3) ?_ ?_
   ·intro yq zq wq hC hd
    obtain ⟨hcq,hfq⟩ := bcell hC
    simp at hd
    obtain ⟨⟨⟨M,nM,cM,eM,hM⟩, _⟩, _⟩ := hd
    obtain rfl : 3 = nM := hM.1
    refine ⟨by go_simp; done, ?_⟩
    go_simp
   iterate 2
    apply walkM_eq
    case h =>
     intro yq zq wq hC hd
     obtain ⟨hcq,hfq⟩ := bcell hC
     simp at hd
     refine ⟨by go_simp; done, ?_⟩
     go_simp
     first | (go_ints; exact rfl) | (go_ints; rw [if_pos (by omega)]; try exact rfl) | exact rfl | (rw [if_pos (by omega)]; try exact rfl)
   intro yq zq wa hC hd hdis0
   have hdis := hid hdis0
   clear hdis0
   simp at hd
   go_simp
   have HBa := hid (Below.next HB.out (Below.next HB4.out hC))
   clear hd hdis
   go_wp2_with fail
   go_roundg g
   case measure => omega
   case rel => exact ⟨k + 1,hk'.out,by go_num,HBa.out⟩
  ·obtain rfl : k = nT := by omega
   have hki : ¬ ((k : Int) < k) := by omega
   clear hk hkn hb
   go_wp2
   go_ret
   exact ⟨by simp,Below.next BW3.out HB.out⟩

theorem own : ownKnob Tryz.prog.godebug = none := by kernel_rfl
theorem laidOut : laidOutB Tryz.prog = true := by kernel_rfl

set_option maxRecDepth 100000 in
theorem lifted (os : Os) (started : os.Started) (H : Type) (enc : TypeId × Value → H) :
  ReturnsInHanded {} Tryz.checked os 3 .any (Rows.fnFieldsSpec.pre6 enc Tryz.prog Tryz.f3 Rows.fnFieldsRow.domain false) (Rows.fnFieldsSpec.post enc Tryz.prog Tryz.f3 false true false false) := by
 refine returnsInHanded_of_change (C := Tryz.checked) own started (by kernel_rfl) Tryz.func3
  (ChangeSpec.witness6 (enc := enc) (C := Tryz.checked) false ⟨#[], #[.slice none 0 0], []⟩ 8 (by kernel_rfl) (by kernel_rfl) (by kernel_rfl) (by kernel_rfl)) ?_
 intro W base args ds gs before hval0 hW hcnd _
 have hval : ∀ (j : Nat) t v,Tryz.f3.params[j]? = some t → args[j]? = some v → Value.okWide Tryz.prog W .any base t v := hval0
 have hW' := hW
 obtain ⟨p,q,hA0,hV,rfl,hfz,hnd⟩ := hW
 have hA : DataW.TrodAll enc Tryz.prog W 0 (fun _ => true) true Tryz.f3.params.toList args.toList ds p := hA0
 rw [Tryz.params3] at hA hval
 obtain ⟨v0,vs0,d0,ds0,p0,q0,hargs,rfl,rfl,h0,r0⟩ := trodAll_cons hA
 obtain ⟨rfl,rfl,rfl⟩ := trodAll_nil r0
 obtain rfl : args = #[v0] := by cases args; simp_all
 obtain ⟨rfl,rfl⟩ := trodVars_none hV
 clear hA0 hval0
 simp only [List.append_nil] at hW'
 obtain ⟨A0,n0,c0,x0,b0,rfl,g0⟩ := Opens.sl oLTByte Tryz.underlying22 (hval 0 22 v0 rfl rfl) h0
 refine (walk _ _ _ x0 b0 W g0).mono fun e W' ⟨he,hB⟩ => ?_
 subst he
 have l0 : ∀ x ∈ p0,x.block < W.heap.size := fun x hx => hW'.lt x (by simp [hx])
 refine ⟨_,rfl, _, _, _, [],p0, [],hW',trodAll_cons_mk (shut_bool Tryz.underlying4 _) trodAll_mk0, ?_,rfl,hB.frame _,fun h => by cases h⟩
 have ha := trodAll_cons_mk (Below.trod laidOut (by kernel_rfl) (of_decide_eq_true (by kernel_rfl)) h0 hB l0) trodAll_mk0
 simp only [List.append_nil] at ha
 exact ha

theorem proved : Rows.FnFieldsSaid :=
 OpenClaim.holds_of_wide 3 Tryz.f3 rfl rfl rfl rfl rfl rfl rfl ⟨rfl,rfl,rfl,rfl,rfl⟩ rfl rfl rfl rfl rfl (by kernel_rfl) Tryz.func3 (by kernel_rfl)
  (of_decide_eq_true (by kernel_rfl)) (by unfold Func.isWrapper; first | (rw [if_pos (by decide +kernel)]; kernel_rfl) | (rw [if_neg (by decide +kernel)]; exact ⟨rfl,rfl⟩))
  (fun os started H enc _ => lifted os started H enc)
#print axioms proved
end Go.Proofs.YtpfipnankjeokaaGreat.fnFields
