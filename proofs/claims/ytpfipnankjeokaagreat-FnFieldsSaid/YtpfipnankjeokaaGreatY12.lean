/- Part of a claim's proof: texts of this repository's wip,joined by prune.py,without the theorems that the claim does not reach. -/
import Derived.Test.YtpfipnankjeokaaGreatY11
/- The reference's operations on fractions. No condition. -/
/- The reference's fractions: RatMul,RatMin,RatMax. -/
namespace Go.Proofs.YtpfipnankjeokaaGreat.X
open Go.RowKit Go.XB Go.XN
attribute [local go_sem] fillBy opAt deps depOf Region.wanted yielded
attribute [local simp] deps depOf MP.eq MP.agg MP.sl Facts
set_option linter.constructorNameAsVariable false

end Go.Proofs.YtpfipnankjeokaaGreat.X

/- The reference's fractions: RatCmp,RatSign. -/
namespace Go.Proofs.YtpfipnankjeokaaGreat.X
open Go.RowKit Go.XB Go.XN
attribute [local go_sem] fillBy opAt deps depOf Region.wanted yielded
attribute [local simp] deps depOf MP.eq MP.agg MP.sl Facts
set_option linter.constructorNameAsVariable false

end Go.Proofs.YtpfipnankjeokaaGreat.X

/- The reference's fractions: l11Valid. -/
namespace Go.Proofs.YtpfipnankjeokaaGreat.X
open Go.RowKit Go.XB Go.XN
attribute [local go_sem] fillBy opAt deps depOf Region.wanted yielded
attribute [local simp] deps depOf MP.eq MP.agg MP.sl Facts
set_option linter.constructorNameAsVariable false

end Go.Proofs.YtpfipnankjeokaaGreat.X

/- The reference's fractions: l04Add. -/
namespace Go.Proofs.YtpfipnankjeokaaGreat.X
open Go.RowKit Go.XB Go.XN
attribute [local go_sem] fillBy opAt deps depOf Region.wanted yielded
attribute [local simp] deps depOf MP.eq MP.agg MP.sl Facts
set_option linter.constructorNameAsVariable false

set_option maxHeartbeats 4000000 in
set_option maxRecDepth 10000 in
theorem spec_l04Add (v1 v2 : Value) (r s : TRat) (b1 b2 : List Nat) (w : World) (hx : Agg w v1 r b1) (hy : Agg w v2 s b2) (vr : RatV r) (vs : RatV s) :
  Calls Tryz.prog 122 #[v1,v2] w (GivesAgg w (mkR (numv r * denv s + numv s * denv r) (denv r * denv s))) := by
 obtain ⟨A1,n1,c1,s1,A2,n2,c2,s2,rfl,rfl,hs1,hs2⟩ := TRat.agg hx
 obtain ⟨A3,n3,c3,s3,A4,n4,c4,s4,rfl,rfl,hs3,hs4⟩ := TRat.agg hy
 have H1 := hid hs1; have H2 := hid hs2; have H3 := hid hs3; have H4 := hid hs4
 have VR := hid vr; have VS := hid vs
 have DD := hid (vr.denD vs)
 clear hs1 hs2 hs3 hs4 hx hy vr vs
 by_cases hb : r.den = [1] ∧ s.den = [1]
 ·have R1 := hid (show decide (r.den = [1]) = true by simp [hb.1])
  have S1 := hid (show decide (s.den = [1]) = true by simp [hb.2])
  have ER := hid (show numv r * denv s + numv s * denv r = numv r + numv s ∧ denv r * denv s = val [1] by
   unfold denv; rw [hb.1,hb.2]; have : val [1] = 1 := rfl
   rw [this]; omega)
  clear hb
  go_enter Tryz.func122,Tryz.ntmps122
  go_wp2_with fail
  have C := spec_l04One A2 n2 c2 r.den _ (((w.alloc (.cells #[.bool r.num.neg, .slice A1 n1 c1, .slice A2 n2 c2] 32)).alloc (.cells #[.bool s.num.neg, .slice A3 n3 c3, .slice A4 n4 c4] 32)).alloc (.cells #[.bool false, .slice none 0 0, .slice none 0 0] 32)) (Sl.below H2.out (by (with_reducible repeat first | exact Below.refl _ _ | (refine Below.set ?_ ?_ _; rotate_left; (simp <;> omega)) | refine Below.box_ ?_ _ | refine Below.next ?_ (by assumption))))
  rw [R1.out] at C
  refine C.mono ?_
  clear C
  rintro _ w1 ⟨rfl,hb1⟩
  obtain ⟨hc_w1,hf_w1⟩ := bcell hb1
  have hz0_w1 : w.heap.size < w1.heap.size := by have := hb1.size; (try simp at this); omega
  have hz1_w1 : w.heap.size + 1 < w1.heap.size := by have := hb1.size; (try simp at this); omega
  have hz2_w1 : w.heap.size + 1 + 1 < w1.heap.size := by have := hb1.size; (try simp at this); omega
  go_wp2_with fail
  have C := spec_l04One A4 n4 c4 s.den _ w1 (Sl.below H4.out (by (with_reducible repeat first | exact Below.refl _ _ | (refine Below.set ?_ ?_ _; rotate_left; (simp <;> omega)) | refine Below.box_ ?_ _ | refine Below.next ?_ (by assumption))))
  rw [S1.out] at C
  refine C.mono ?_
  clear C
  rintro _ w2 ⟨rfl,hb2⟩
  obtain ⟨hc_w2,hf_w2⟩ := bcell hb2
  have hz0_w2 : w.heap.size < w2.heap.size := by have := hb2.size; (try simp at this); omega
  have hz1_w2 : w.heap.size + 1 < w2.heap.size := by have := hb2.size; (try simp at this); omega
  have hz2_w2 : w.heap.size + 1 + 1 < w2.heap.size := by have := hb2.size; (try simp at this); omega
  go_wp2_with fail
  have bb2 : Below w.heap.size w w2 := by (with_reducible repeat first | exact Below.refl _ _ | (refine Below.set ?_ ?_ _; rotate_left; (simp <;> omega)) | refine Below.box_ ?_ _ | refine Below.next ?_ (by assumption))
  refine (spec_l03Add _ _ r.num s.num _ _ w2 (TBigInt.mkAgg (Sl.below H1.out bb2)) (TBigInt.mkAgg (Sl.below H3.out bb2)) VR.out.mag VS.out.mag (Nat.le_trans VR.out.num24 (by decide)) (Nat.le_trans VS.out.num24 (by decide))).mono ?_
  rintro _ w3 ⟨v3,s5,rfl,ha3,ho3,hb3⟩
  obtain ⟨B1,m1,d1,t1,rfl,hz,hs5⟩ := TBigInt.agg ha3
  have HS5 := hid hs5; have HO5 := hid ho3
  clear ha3 ho3 hz hs5
  obtain ⟨hc_w3,hf_w3⟩ := bcell hb3
  have hz0_w3 : w.heap.size < w3.heap.size := by have := hb3.size; (try simp at this); omega
  have hz1_w3 : w.heap.size + 1 < w3.heap.size := by have := hb3.size; (try simp at this); omega
  have hz2_w3 : w.heap.size + 1 + 1 < w3.heap.size := by have := hb3.size; (try simp at this); omega
  go_wp2_with fail
  obtain ⟨ls,hls, _⟩ := lit_sl (w3.alloc (.cells #[.bool (encI (ival r.num + ival s.num)).neg, .slice B1 m1 d1] 30)) [1] (by simp [maxLen]) (by simp [I64])
  rw [show (w3.alloc (.cells #[.bool (encI (ival r.num + ival s.num)).neg, .slice B1 m1 d1] 30)).heap.size = w3.heap.size + 1 by simp] at hls
  have C := spec_l04Low (encI (ival r.num + ival s.num)).neg B1 (some ⟨w3.heap.size + 1,0,none⟩) m1 1 d1 1 (encI (ival r.num + ival s.num)).mag [1] t1 ls ((w3.alloc (.cells #[.bool (encI (ival r.num + ival s.num)).neg, .slice B1 m1 d1] 30)).alloc (.cells #[.int .i64 1] 3)) (Sl.below (Sl.below HS5.out (Below.box _)) (Below.box _)) hls (encI_can _) ⟨Lims.one (by decide) (by decide),by decide⟩ (by decide) (by rw [← HS5.out.1]; exact Nat.le_trans (enc_len (len_add VR.out.numlt VS.out.numlt)) (by decide)) (by decide)
  rw [show sval (encI (ival r.num + ival s.num)).neg (encI (ival r.num + ival s.num)).mag = numv r + numv s from ival_enc _, ← ER.out.1, ← ER.out.2] at C
  refine C.mono ?_
  clear C hls
  rintro _ w4 ⟨v4,s6,rfl,ha4,ho4,hb4⟩
  obtain ⟨P1,m5,d5,t5,P2,m6,d6,t6,rfl,hz, _, _⟩ := TRat.agg ha4
  have HA := hid ha4; have HO := hid ho4
  have HL := hid (show w.heap.size + 3 ≤ w3.heap.size by omega)
  clear ha4 ho4 hz
  obtain ⟨hc_w4,hf_w4⟩ := bcell hb4
  have hz0_w4 : w.heap.size < w4.heap.size := by have := hb4.size; simp at this; omega
  have hz1_w4 : w.heap.size + 1 < w4.heap.size := by have := hb4.size; simp at this; omega
  have hz2_w4 : w.heap.size + 1 + 1 < w4.heap.size := by have := hb4.size; simp at this; omega
  have hzz : w.heap.size + 1 + 1 < w3.heap.size + 1 + 1 := by omega
  go_wp2
  refine bodyPost_ret (v := .agg #[.bool (mkR (numv r * denv s + numv s * denv r) (denv r * denv s)).num.neg, .slice P1 m5 d5, .slice P2 m6 d6]) (by simp [results,Tryz.results122,go_sem, *]) rfl ?_
  refine agg_fin (lo := w.heap.size + 3) HA.out HO.out.free (fun b hb => by have := (HO.out.range b hb).1; have := HL.out; simp at *; omega) (by omega) ?_ ?_
  ·(with_reducible repeat first | exact Above.refl _ _ | (refine Above.set ?_ ?_ _; rotate_left; (simp <;> omega)) | refine Above.box ?_ _ | refine Above.below ?_ (by assumption))
  ·(with_reducible repeat first | exact Below.refl _ _ | (refine Below.set ?_ ?_ _; rotate_left; (simp <;> omega)) | refine Below.box_ ?_ _ | refine Below.next ?_ (by assumption))
 ·have N1 := hid (show n1 ≤ 1048576 by rw [← H1.out.1]; have := VR.out.num24; omega)
  have N2 := hid (show n2 ≤ 1048576 by rw [← H2.out.1]; have := VR.out.den24; omega)
  have N3 := hid (show n3 ≤ 1048576 by rw [← H3.out.1]; have := VS.out.num24; omega)
  have N4 := hid (show n4 ≤ 1048576 by rw [← H4.out.1]; have := VS.out.den24; omega)
  by_cases hr1 : r.den = [1]
  ·have R1 := hid (show decide (r.den = [1]) = true by simp [hr1])
   have S1 := hid (show decide (s.den = [1]) = false by simp; intro h; exact hb ⟨hr1,h⟩)
   clear hb hr1
   go_enter Tryz.func122,Tryz.ntmps122
   go_wp2_with fail
   have C := spec_l04One A2 n2 c2 r.den _ (((w.alloc (.cells #[.bool r.num.neg, .slice A1 n1 c1, .slice A2 n2 c2] 32)).alloc (.cells #[.bool s.num.neg, .slice A3 n3 c3, .slice A4 n4 c4] 32)).alloc (.cells #[.bool false, .slice none 0 0, .slice none 0 0] 32)) (Sl.below H2.out (by (with_reducible repeat first | exact Below.refl _ _ | (refine Below.set ?_ ?_ _; rotate_left; (simp <;> omega)) | refine Below.box_ ?_ _ | refine Below.next ?_ (by assumption))))
   rw [R1.out] at C
   refine C.mono ?_
   clear C
   rintro _ w0 ⟨rfl,hb0⟩
   obtain ⟨hc_w0,hf_w0⟩ := bcell hb0
   have hz0_w0 : w.heap.size < w0.heap.size := by have := hb0.size; (try simp at this); omega
   have hz1_w0 : w.heap.size + 1 < w0.heap.size := by have := hb0.size; (try simp at this); omega
   have hz2_w0 : w.heap.size + 1 + 1 < w0.heap.size := by have := hb0.size; (try simp at this); omega
   go_wp2_with fail
   have C := spec_l04One A4 n4 c4 s.den _ w0 (Sl.below H4.out (by (with_reducible repeat first | exact Below.refl _ _ | (refine Below.set ?_ ?_ _; rotate_left; (simp <;> omega)) | refine Below.box_ ?_ _ | refine Below.next ?_ (by assumption))))
   rw [S1.out] at C
   refine C.mono ?_
   clear C
   rintro _ w1 ⟨rfl,hb1⟩
   obtain ⟨hc_w1,hf_w1⟩ := bcell hb1
   have hz0_w1 : w.heap.size < w1.heap.size := by have := hb1.size; (try simp at this); omega
   have hz1_w1 : w.heap.size + 1 < w1.heap.size := by have := hb1.size; (try simp at this); omega
   have hz2_w1 : w.heap.size + 1 + 1 < w1.heap.size := by have := hb1.size; (try simp at this); omega
   go_wp2_with fail
   refine wp_region_last (by simp) (by kernel_rfl) (by kernel_rfl) (by kernel_rfl) (by kernel_rfl) ?_
   dsimp only [List.dropLast,List.getLast,List.length]
   iterate 8
    apply walkM_eq
    case h =>
     intro yq zq wq hC hd
     obtain ⟨hcq,hfq⟩ := bcell hC
     simp at hd
     refine ⟨by go_simp; done, ?_⟩
     go_simp
     first | (go_ints; exact rfl) | (go_ints; rw [if_pos (by omega)]; try exact rfl) | exact rfl | (rw [if_pos (by omega)]; try exact rfl)
   refine walkM_call (MP.sl (dig (val r.num.mag * val s.den).toNat)) ?_ ?_
   ·intro yq zq wq hC hd
    obtain ⟨hcq,hfq⟩ := bcell hC
    simp at hd
    refine ⟨by go_simp; done, ?_⟩
    apply Exists.intro
    apply Exists.intro
    constructor
    ·go_simp
     exact ⟨rfl,rfl⟩
    ·exact gives_sl ((spec_l02Mul A1 A4 n1 n4 c1 c4 r.num.mag s.den _ _ wq (Sl.below H1.out (by (with_reducible repeat first | exact Below.refl _ _ | (refine Below.set ?_ ?_ _; rotate_left; (simp <;> omega)) | refine Below.box_ ?_ _ | refine Below.next ?_ (by assumption)))) (Sl.below H4.out (by (with_reducible repeat first | exact Below.refl _ _ | (refine Below.set ?_ ?_ _; rotate_left; (simp <;> omega)) | refine Below.box_ ?_ _ | refine Below.next ?_ (by assumption)))) VR.out.mag.1 VS.out.den.1 N1.out N4.out).mono fun _ _ h => row_gives (dig_can _).1.i64 h)
   refine walkM_call (MP.agg (encI (numv r * denv s))) ?_ ?_
   ·intro yq zq wq hC hd
    obtain ⟨hcq,hfq⟩ := bcell hC
    simp at hd
    refine ⟨by go_simp; done, ?_⟩
    apply Exists.intro
    apply Exists.intro
    constructor
    ·go_simp
     exact ⟨rfl,rfl⟩
    ·obtain ⟨_,⟨A,n,c,e,hs⟩, _⟩ := hd
     rw [e]
     have C := spec_l03Make r.num.neg A n c _ _ wq hs (dig_can _) (by rw [← hs.1]; exact Nat.le_trans (mul_len VR.out.mag.1 VS.out.den.1 VR.out.num24 VS.out.den24) (by decide))
     rw [nd_mk VR.out.mag.1 VS.out.den.1 hs.1] at C
     exact gives_agg C
   refine walkM_new #[.bool false, .slice none 0 0] 30 ?_ ?_
   ·intro yq zq wq hC hd
    refine ⟨by go_simp; done, ?_⟩
    go_simp
   intro yq zq wa hC hd hdis0
   have hdis := hid hdis0
   clear hdis0
   simp at hd
   have q9 := hd.2.2.2.2.2.2.2.2.2.1
   have q10 := hd.2.2.2.2.2.2.2.2.2.2
   obtain ⟨⟨ha9,hf9⟩,hr9⟩ := q9
   obtain ⟨B1,B2,B3,Bt,e9,hz9,hs9⟩ := TBigInt.agg ha9
   obtain ⟨⟨g,e10,hz10,hg⟩,hr10⟩ := q10
   have hgt : ∀ b ∈ Bt,b ≠ g := fun b hb e => by
    have := hdis.out 9 10 (by decide) (by decide) (by decide) b (by rw [hz9]; exact hb)
    rw [hz10] at this; simp at this; exact this e
   rw [hz9] at hf9 hr9
   have hgw : w1.heap.size ≤ g ∧ g < wa.heap.size := by have := hr10 g (by rw [hz10]; simp); omega
   have hgw1 := hgw.1
   obtain ⟨G0,F0⟩ := box_cell hg (j := 0) rfl
   obtain ⟨G1,F1⟩ := box_cell hg (j := 1) rfl
   obtain ⟨k1,k2⟩ := keep_sl hs9 hf9 hgt (.bool (encI (numv r * denv s)).neg) (.slice B1 B2 B3)
   have HK4 := hid k1
   clear hd hdis hs9 hf9 hr9 hr10 hg hgt k1 k2 ha9 hz9 hz10
   have hb4 : Below w.heap.size w ((wa.setCell ⟨g,0,none⟩ (.bool (encI (numv r * denv s)).neg)).setCell ⟨g,1,none⟩ (.slice B1 B2 B3)) := by (with_reducible repeat first | exact Below.refl _ _ | (refine Below.set ?_ ?_ _; rotate_left; (simp <;> omega)) | refine Below.box_ ?_ _ | refine Below.next ?_ (by assumption))
   have K1 : ((wa.setCell ⟨g,0,none⟩ (.bool (encI (numv r * denv s)).neg)).setCell ⟨g,1,none⟩ (.slice B1 B2 B3)).cell? ⟨g,1,none⟩ = some (.slice B1 B2 B3) :=
    World.cell?_setCell_same _ _ _ ((World.cell?_setCell_other wa ⟨g,0,none⟩ ⟨g,1,none⟩ _ (by simp)).trans G1)
   have K0 : ((wa.setCell ⟨g,0,none⟩ (.bool (encI (numv r * denv s)).neg)).setCell ⟨g,1,none⟩ (.slice B1 B2 B3)).cell? ⟨g,0,none⟩ = some (.bool (encI (numv r * denv s)).neg) :=
    (World.cell?_setCell_other _ ⟨g,1,none⟩ ⟨g,0,none⟩ _ (by simp)).trans (World.cell?_setCell_same _ _ _ G0)
   have HBn4 := hid (show Below w1.heap.size w1 ((wa.setCell ⟨g,0,none⟩ (.bool (encI (numv r * denv s)).neg)).setCell ⟨g,1,none⟩ (.slice B1 B2 B3)) from (hC.setCell (p := ⟨g,0,none⟩) hgw1 _).setCell (p := ⟨g,1,none⟩) hgw1 _)
   have HKa4 := hid K0; have HKb4 := hid K1; have HB4 := hid hb4
   have HZ4 := hid (show ((wa.setCell ⟨g,0,none⟩ (.bool (encI (numv r * denv s)).neg)).setCell ⟨g,1,none⟩ (.slice B1 B2 B3)).heap.size = wa.heap.size by simp)
   have hgl4 := hgw.2
   clear K0 K1 hb4
   obtain ⟨hc_wa,hf_wa⟩ := bcell hC
   have hz0_wa : w.heap.size < wa.heap.size := by have := hC.size; (try simp at this); omega
   have hz1_wa : w.heap.size + 1 < wa.heap.size := by have := hC.size; (try simp at this); omega
   have hz2_wa : w.heap.size + 1 + 1 < wa.heap.size := by have := hC.size; (try simp at this); omega
   go_wp2_with fail
   generalize ((wa.setCell ⟨g,0,none⟩ (.bool (encI (numv r * denv s)).neg)).setCell ⟨g,1,none⟩ (.slice B1 B2 B3)) = W4 at *
   have hgm4 : g < W4.heap.size := by have := HZ4.out; omega
   have kka4 := HKa4.out
   have kkb4 := HKb4.out
   obtain ⟨hc_W4,hf_W4⟩ := bcell HBn4.out
   have hz4s : w1.heap.size ≤ W4.heap.size := HBn4.out.size
   have hz4a : w.heap.size < W4.heap.size := by omega
   have hz4b : w.heap.size + 1 < W4.heap.size := by omega
   have hz4c : w.heap.size + 1 + 1 < W4.heap.size := by omega
   clear G0 G1 F0 F1 hc_wa hf_wa e9 e10 hC hz0_wa hz1_wa hz2_wa hgw hgw1
   have hbW4 := HB4.out
   refine wp_region_last (by simp) (by kernel_rfl) (by kernel_rfl) (by kernel_rfl) (by kernel_rfl) ?_
   dsimp only [List.dropLast,List.getLast,List.length]
   iterate 8
    apply walkM_eq
    case h =>
     intro yq zq wq hC hd
     obtain ⟨hcq,hfq⟩ := bcell hC
     simp at hd
     refine ⟨by go_simp; done, ?_⟩
     go_simp
     first | (go_ints; exact rfl) | (go_ints; rw [if_pos (by omega)]; try exact rfl) | exact rfl | (rw [if_pos (by omega)]; try exact rfl)
   refine walkM_call (MP.sl (dig (val s.num.mag * val r.den).toNat)) ?_ ?_
   ·intro yq zq wq hC hd
    obtain ⟨hcq,hfq⟩ := bcell hC
    simp at hd
    refine ⟨by go_simp; done, ?_⟩
    apply Exists.intro
    apply Exists.intro
    constructor
    ·go_simp
     exact ⟨rfl,rfl⟩
    ·exact gives_sl ((spec_l02Mul A3 A2 n3 n2 c3 c2 s.num.mag r.den _ _ wq (Sl.below H3.out (by (with_reducible repeat first | exact Below.refl _ _ | (refine Below.set ?_ ?_ _; rotate_left; (simp <;> omega)) | refine Below.box_ ?_ _ | refine Below.next ?_ (by assumption)))) (Sl.below H2.out (by (with_reducible repeat first | exact Below.refl _ _ | (refine Below.set ?_ ?_ _; rotate_left; (simp <;> omega)) | refine Below.box_ ?_ _ | refine Below.next ?_ (by assumption)))) VS.out.mag.1 VR.out.den.1 N3.out N2.out).mono fun _ _ h => row_gives (dig_can _).1.i64 h)
   refine walkM_call (MP.agg (encI (numv s * denv r))) ?_ ?_
   ·intro yq zq wq hC hd
    obtain ⟨hcq,hfq⟩ := bcell hC
    simp at hd
    refine ⟨by go_simp; done, ?_⟩
    apply Exists.intro
    apply Exists.intro
    constructor
    ·go_simp
     exact ⟨rfl,rfl⟩
    ·obtain ⟨_,⟨A,n,c,e,hs⟩, _⟩ := hd
     rw [e]
     have C := spec_l03Make s.num.neg A n c _ _ wq hs (dig_can _) (by rw [← hs.1]; exact Nat.le_trans (mul_len VS.out.mag.1 VR.out.den.1 VS.out.num24 VR.out.den24) (by decide))
     rw [nd_mk VS.out.mag.1 VR.out.den.1 hs.1] at C
     exact gives_agg C
   refine walkM_new #[.bool false, .slice none 0 0] 30 ?_ ?_
   ·intro yq zq wq hC hd
    refine ⟨by go_simp; done, ?_⟩
    go_simp
   intro yq zq wb hC hd hdis0
   have hdis := hid hdis0
   clear hdis0
   simp at hd
   have q9 := hd.2.2.2.2.2.2.2.2.2.1
   have q10 := hd.2.2.2.2.2.2.2.2.2.2
   obtain ⟨⟨ha9,hf9⟩,hr9⟩ := q9
   obtain ⟨D1,D2,D3,Dt,e9,hz9,hs9⟩ := TBigInt.agg ha9
   obtain ⟨⟨g5,e10,hz10,hg⟩,hr10⟩ := q10
   have hgt : ∀ b ∈ Dt,b ≠ g5 := fun b hb e => by
    have := hdis.out 9 10 (by decide) (by decide) (by decide) b (by rw [hz9]; exact hb)
    rw [hz10] at this; simp at this; exact this e
   rw [hz9] at hf9 hr9
   have hgw : W4.heap.size ≤ g5 ∧ g5 < wb.heap.size := by have := hr10 g5 (by rw [hz10]; simp); omega
   have hgw1 := hgw.1
   obtain ⟨G0,F0⟩ := box_cell hg (j := 0) rfl
   obtain ⟨G1,F1⟩ := box_cell hg (j := 1) rfl
   obtain ⟨k1,k2⟩ := keep_sl hs9 hf9 hgt (.bool (encI (numv s * denv r)).neg) (.slice D1 D2 D3)
   have HK5 := hid k1
   clear hd hdis hs9 hf9 hr9 hr10 hg hgt k1 k2 ha9 hz9 hz10
   have hb4 : Below w.heap.size w ((wb.setCell ⟨g5,0,none⟩ (.bool (encI (numv s * denv r)).neg)).setCell ⟨g5,1,none⟩ (.slice D1 D2 D3)) := by (with_reducible repeat first | exact Below.refl _ _ | (refine Below.set ?_ ?_ _; rotate_left; (simp <;> omega)) | refine Below.box_ ?_ _ | refine Below.next ?_ (by assumption))
   have K1 : ((wb.setCell ⟨g5,0,none⟩ (.bool (encI (numv s * denv r)).neg)).setCell ⟨g5,1,none⟩ (.slice D1 D2 D3)).cell? ⟨g5,1,none⟩ = some (.slice D1 D2 D3) :=
    World.cell?_setCell_same _ _ _ ((World.cell?_setCell_other wb ⟨g5,0,none⟩ ⟨g5,1,none⟩ _ (by simp)).trans G1)
   have K0 : ((wb.setCell ⟨g5,0,none⟩ (.bool (encI (numv s * denv r)).neg)).setCell ⟨g5,1,none⟩ (.slice D1 D2 D3)).cell? ⟨g5,0,none⟩ = some (.bool (encI (numv s * denv r)).neg) :=
    (World.cell?_setCell_other _ ⟨g5,1,none⟩ ⟨g5,0,none⟩ _ (by simp)).trans (World.cell?_setCell_same _ _ _ G0)
   have HBn5 := hid (show Below W4.heap.size W4 ((wb.setCell ⟨g5,0,none⟩ (.bool (encI (numv s * denv r)).neg)).setCell ⟨g5,1,none⟩ (.slice D1 D2 D3)) from (hC.setCell (p := ⟨g5,0,none⟩) hgw1 _).setCell (p := ⟨g5,1,none⟩) hgw1 _)
   have HKa5 := hid K0; have HKb5 := hid K1; have HB5 := hid hb4
   have HZ5 := hid (show ((wb.setCell ⟨g5,0,none⟩ (.bool (encI (numv s * denv r)).neg)).setCell ⟨g5,1,none⟩ (.slice D1 D2 D3)).heap.size = wb.heap.size by simp)
   have hgl5 := hgw.2
   clear K0 K1 hb4
   obtain ⟨hc_wb,hf_wb⟩ := bcell hC
   have hz0_wb : w.heap.size < wb.heap.size := by have := hC.size; (try simp at this); omega
   have hz1_wb : w.heap.size + 1 < wb.heap.size := by have := hC.size; (try simp at this); omega
   have hz2_wb : w.heap.size + 1 + 1 < wb.heap.size := by have := hC.size; (try simp at this); omega
   go_wp2_with fail
   generalize ((wb.setCell ⟨g5,0,none⟩ (.bool (encI (numv s * denv r)).neg)).setCell ⟨g5,1,none⟩ (.slice D1 D2 D3)) = W5 at *
   have hgm5 : g5 < W5.heap.size := by have := HZ5.out; omega
   have kka5 := HKa5.out
   have kkb5 := HKb5.out
   obtain ⟨hc_W5,hf_W5⟩ := bcell HBn5.out
   have hz5s : W4.heap.size ≤ W5.heap.size := HBn5.out.size
   have hz5a : w.heap.size < W5.heap.size := by omega
   have hz5b : w.heap.size + 1 < W5.heap.size := by omega
   have hz5c : w.heap.size + 1 + 1 < W5.heap.size := by omega
   clear G0 G1 F0 F1 hc_wb hf_wb e9 e10 hC hz0_wb hz1_wb hz2_wb hgw hgw1
   have hbW5 := HB5.out
   have bb5 : Below w.heap.size w W5 := hbW5
   have T4 := hid (show (encI (numv r * denv s)).mag.length ≤ 59 from Nat.le_trans (enc_len (len_mul VR.out.numlt VS.out.denlt)) (by decide))
   have T5 := hid (show (encI (numv s * denv r)).mag.length ≤ 59 from Nat.le_trans (enc_len (len_mul VS.out.numlt VR.out.denlt)) (by decide))
   have T6 := hid (show (encI (numv r * denv s + numv s * denv r)).mag.length ≤ 65536 by
    have h := enc_len (len_add (len_mul VR.out.numlt VS.out.denlt) (len_mul VS.out.numlt VR.out.denlt))
    omega)
   go_wp2_with fail
   have C := spec_l03Add _ _ (encI (numv r * denv s)) (encI (numv s * denv r)) _ _ W5 (TBigInt.mkAgg (Sl.below HK4.out HBn5.out)) (TBigInt.mkAgg HK5.out) (encI_can _) (encI_can _) T4.out T5.out
   rw [ival_enc,ival_enc] at C
   refine C.mono ?_
   clear C
   rintro _ w6 ⟨v6,s6,rfl,ha6,ho6,hb6⟩
   obtain ⟨E1,E2,E3,Et,rfl,hz,hs6⟩ := TBigInt.agg ha6
   have HS6 := hid hs6
   clear ha6 ho6 hz hs6 kka4 kkb4 kka5 kkb5
   obtain ⟨hc_w6,hf_w6⟩ := bcell hb6
   have hz0_w6 : w.heap.size < w6.heap.size := by have := hb6.size; (try simp at this); omega
   have hz1_w6 : w.heap.size + 1 < w6.heap.size := by have := hb6.size; (try simp at this); omega
   have hz2_w6 : w.heap.size + 1 + 1 < w6.heap.size := by have := hb6.size; (try simp at this); omega
   go_wp2_with fail
   have bb6 : Below w.heap.size w w6 := Below.next bb5 hb6
   refine wp_region_last (by simp) (by kernel_rfl) (by kernel_rfl) (by kernel_rfl) (by kernel_rfl) ?_
   dsimp only [List.dropLast,List.getLast,List.length]
   iterate 8
    apply walkM_eq
    case h =>
     intro yq zq wq hC hd
     obtain ⟨hcq,hfq⟩ := bcell hC
     simp at hd
     refine ⟨by go_simp; done, ?_⟩
     go_simp
     first | (go_ints; exact rfl) | (go_ints; rw [if_pos (by omega)]; try exact rfl) | exact rfl | (rw [if_pos (by omega)]; try exact rfl)
   refine walkM_call (MP.sl (dig (denv r * denv s).toNat)) ?_ ?_
   ·intro yq zq wq hC hd
    obtain ⟨hcq,hfq⟩ := bcell hC
    simp at hd
    refine ⟨by go_simp; done, ?_⟩
    apply Exists.intro
    apply Exists.intro
    constructor
    ·go_simp
     exact ⟨rfl,rfl⟩
    ·exact gives_sl ((spec_l02Mul A2 A4 n2 n4 c2 c4 r.den s.den _ _ wq (Sl.below H2.out (by (with_reducible repeat first | exact Below.refl _ _ | (refine Below.set ?_ ?_ _; rotate_left; (simp <;> omega)) | refine Below.box_ ?_ _ | refine Below.next ?_ (by assumption)))) (Sl.below H4.out (by (with_reducible repeat first | exact Below.refl _ _ | (refine Below.set ?_ ?_ _; rotate_left; (simp <;> omega)) | refine Below.box_ ?_ _ | refine Below.next ?_ (by assumption)))) VR.out.den.1 VS.out.den.1 N2.out N4.out).mono fun _ _ h => row_gives (dig_can _).1.i64 h)
   refine walkM_call (MP.agg (mkR (numv r * denv s + numv s * denv r) (denv r * denv s))) ?_ ?_
   ·intro yq zq wq hC hd
    obtain ⟨hcq,hfq⟩ := bcell hC
    simp at hd
    refine ⟨by go_simp; done, ?_⟩
    apply Exists.intro
    apply Exists.intro
    constructor
    ·go_simp
     exact ⟨rfl,rfl⟩
    ·obtain ⟨_, _,⟨A',n',c',e',hs'⟩, _⟩ := hd
     rw [e']
     have C := spec_l04Low (encI (numv r * denv s + numv s * denv r)).neg E1 A' E2 n' E3 c' (encI (numv r * denv s + numv s * denv r)).mag _ _ _ wq (Sl.below (Sl.below HS6.out (Below.box _)) hC) hs' (encI_can _) (dig_can _) (by rw [← hs'.1]; exact DD.out.pos) (by rw [← HS6.out.1]; exact T6.out) (by rw [← hs'.1]; exact DD.out.le)
     rw [show sval (encI (numv r * denv s + numv s * denv r)).neg (encI (numv r * denv s + numv s * denv r)).mag = numv r * denv s + numv s * denv r from ival_enc _,DD.out.v] at C
     exact gives_agg C
   intro yq zq wc hC hd hdis0
   have hdis := hid hdis0
   clear hdis0
   simp at hd
   have q9 := hd.2.2.2.2.2.2.2.2.2
   obtain ⟨⟨ha,hf⟩,hr⟩ := q9
   obtain ⟨P1,P2,P3,Pt,Q1,Q2,Q3,Qt,e9,hz,hs1,hs2⟩ := TRat.agg ha
   have HA := hid ha; have HF := hid hf; have HR := hid hr
   clear hd hdis hz hs1 hs2 ha hf hr
   have HL := hid (show w.heap.size + 3 ≤ (w6.alloc (.cells #[.bool (encI (numv r * denv s + numv s * denv r)).neg, .slice E1 E2 E3] 30)).heap.size by simp; omega)
   obtain ⟨hc_wc,hf_wc⟩ := bcell hC
   have hz0_wc : w.heap.size < wc.heap.size := by have := hC.size; simp at this; omega
   have hz1_wc : w.heap.size + 1 < wc.heap.size := by have := hC.size; simp at this; omega
   have hz2_wc : w.heap.size + 1 + 1 < wc.heap.size := by have := hC.size; simp at this; omega
   have hzz : w.heap.size + 1 + 1 < w6.heap.size + 1 := by omega
   go_wp2
   refine bodyPost_ret (v := .agg #[.bool (mkR (numv r * denv s + numv s * denv r) (denv r * denv s)).num.neg, .slice P1 P2 P3, .slice Q1 Q2 Q3]) (by simp [results,Tryz.results122,go_sem, *]) rfl ?_
   rw [e9] at HA
   refine agg_fin (lo := w.heap.size + 3) HA.out HF.out (fun b hb => by have := (HR.out b hb).1; have := HL.out; omega) (by omega) ?_ ?_
   ·(with_reducible repeat first | exact Above.refl _ _ | (refine Above.set ?_ ?_ _; rotate_left; (simp <;> omega)) | refine Above.box ?_ _ | refine Above.below ?_ (by assumption))
   ·(with_reducible repeat first | exact Below.refl _ _ | (refine Below.set ?_ ?_ _; rotate_left; (simp <;> omega)) | refine Below.box_ ?_ _ | refine Below.next ?_ (by assumption))
  ·have R1 := hid (show decide (r.den = [1]) = false by simp [hr1])
   clear hb hr1
   go_enter Tryz.func122,Tryz.ntmps122
   go_wp2_with fail
   have C := spec_l04One A2 n2 c2 r.den _ (((w.alloc (.cells #[.bool r.num.neg, .slice A1 n1 c1, .slice A2 n2 c2] 32)).alloc (.cells #[.bool s.num.neg, .slice A3 n3 c3, .slice A4 n4 c4] 32)).alloc (.cells #[.bool false, .slice none 0 0, .slice none 0 0] 32)) (Sl.below H2.out (by (with_reducible repeat first | exact Below.refl _ _ | (refine Below.set ?_ ?_ _; rotate_left; (simp <;> omega)) | refine Below.box_ ?_ _ | refine Below.next ?_ (by assumption))))
   rw [R1.out] at C
   refine C.mono ?_
   clear C
   rintro _ w1 ⟨rfl,hb1⟩
   obtain ⟨hc_w1,hf_w1⟩ := bcell hb1
   have hz0_w1 : w.heap.size < w1.heap.size := by have := hb1.size; (try simp at this); omega
   have hz1_w1 : w.heap.size + 1 < w1.heap.size := by have := hb1.size; (try simp at this); omega
   have hz2_w1 : w.heap.size + 1 + 1 < w1.heap.size := by have := hb1.size; (try simp at this); omega
   go_wp2_with fail
   refine wp_region_last (by simp) (by kernel_rfl) (by kernel_rfl) (by kernel_rfl) (by kernel_rfl) ?_
   dsimp only [List.dropLast,List.getLast,List.length]
   iterate 8
    apply walkM_eq
    case h =>
     intro yq zq wq hC hd
     obtain ⟨hcq,hfq⟩ := bcell hC
     simp at hd
     refine ⟨by go_simp; done, ?_⟩
     go_simp
     first | (go_ints; exact rfl) | (go_ints; rw [if_pos (by omega)]; try exact rfl) | exact rfl | (rw [if_pos (by omega)]; try exact rfl)
   refine walkM_call (MP.sl (dig (val r.num.mag * val s.den).toNat)) ?_ ?_
   ·intro yq zq wq hC hd
    obtain ⟨hcq,hfq⟩ := bcell hC
    simp at hd
    refine ⟨by go_simp; done, ?_⟩
    apply Exists.intro
    apply Exists.intro
    constructor
    ·go_simp
     exact ⟨rfl,rfl⟩
    ·exact gives_sl ((spec_l02Mul A1 A4 n1 n4 c1 c4 r.num.mag s.den _ _ wq (Sl.below H1.out (by (with_reducible repeat first | exact Below.refl _ _ | (refine Below.set ?_ ?_ _; rotate_left; (simp <;> omega)) | refine Below.box_ ?_ _ | refine Below.next ?_ (by assumption)))) (Sl.below H4.out (by (with_reducible repeat first | exact Below.refl _ _ | (refine Below.set ?_ ?_ _; rotate_left; (simp <;> omega)) | refine Below.box_ ?_ _ | refine Below.next ?_ (by assumption)))) VR.out.mag.1 VS.out.den.1 N1.out N4.out).mono fun _ _ h => row_gives (dig_can _).1.i64 h)
   refine walkM_call (MP.agg (encI (numv r * denv s))) ?_ ?_
   ·intro yq zq wq hC hd
    obtain ⟨hcq,hfq⟩ := bcell hC
    simp at hd
    refine ⟨by go_simp; done, ?_⟩
    apply Exists.intro
    apply Exists.intro
    constructor
    ·go_simp
     exact ⟨rfl,rfl⟩
    ·obtain ⟨_,⟨A,n,c,e,hs⟩, _⟩ := hd
     rw [e]
     have C := spec_l03Make r.num.neg A n c _ _ wq hs (dig_can _) (by rw [← hs.1]; exact Nat.le_trans (mul_len VR.out.mag.1 VS.out.den.1 VR.out.num24 VS.out.den24) (by decide))
     rw [nd_mk VR.out.mag.1 VS.out.den.1 hs.1] at C
     exact gives_agg C
   refine walkM_new #[.bool false, .slice none 0 0] 30 ?_ ?_
   ·intro yq zq wq hC hd
    refine ⟨by go_simp; done, ?_⟩
    go_simp
   intro yq zq wa hC hd hdis0
   have hdis := hid hdis0
   clear hdis0
   simp at hd
   have q9 := hd.2.2.2.2.2.2.2.2.2.1
   have q10 := hd.2.2.2.2.2.2.2.2.2.2
   obtain ⟨⟨ha9,hf9⟩,hr9⟩ := q9
   obtain ⟨B1,B2,B3,Bt,e9,hz9,hs9⟩ := TBigInt.agg ha9
   obtain ⟨⟨g,e10,hz10,hg⟩,hr10⟩ := q10
   have hgt : ∀ b ∈ Bt,b ≠ g := fun b hb e => by
    have := hdis.out 9 10 (by decide) (by decide) (by decide) b (by rw [hz9]; exact hb)
    rw [hz10] at this; simp at this; exact this e
   rw [hz9] at hf9 hr9
   have hgw : w1.heap.size ≤ g ∧ g < wa.heap.size := by have := hr10 g (by rw [hz10]; simp); omega
   have hgw1 := hgw.1
   obtain ⟨G0,F0⟩ := box_cell hg (j := 0) rfl
   obtain ⟨G1,F1⟩ := box_cell hg (j := 1) rfl
   obtain ⟨k1,k2⟩ := keep_sl hs9 hf9 hgt (.bool (encI (numv r * denv s)).neg) (.slice B1 B2 B3)
   have HK4 := hid k1
   clear hd hdis hs9 hf9 hr9 hr10 hg hgt k1 k2 ha9 hz9 hz10
   have hb4 : Below w.heap.size w ((wa.setCell ⟨g,0,none⟩ (.bool (encI (numv r * denv s)).neg)).setCell ⟨g,1,none⟩ (.slice B1 B2 B3)) := by (with_reducible repeat first | exact Below.refl _ _ | (refine Below.set ?_ ?_ _; rotate_left; (simp <;> omega)) | refine Below.box_ ?_ _ | refine Below.next ?_ (by assumption))
   have K1 : ((wa.setCell ⟨g,0,none⟩ (.bool (encI (numv r * denv s)).neg)).setCell ⟨g,1,none⟩ (.slice B1 B2 B3)).cell? ⟨g,1,none⟩ = some (.slice B1 B2 B3) :=
    World.cell?_setCell_same _ _ _ ((World.cell?_setCell_other wa ⟨g,0,none⟩ ⟨g,1,none⟩ _ (by simp)).trans G1)
   have K0 : ((wa.setCell ⟨g,0,none⟩ (.bool (encI (numv r * denv s)).neg)).setCell ⟨g,1,none⟩ (.slice B1 B2 B3)).cell? ⟨g,0,none⟩ = some (.bool (encI (numv r * denv s)).neg) :=
    (World.cell?_setCell_other _ ⟨g,1,none⟩ ⟨g,0,none⟩ _ (by simp)).trans (World.cell?_setCell_same _ _ _ G0)
   have HBn4 := hid (show Below w1.heap.size w1 ((wa.setCell ⟨g,0,none⟩ (.bool (encI (numv r * denv s)).neg)).setCell ⟨g,1,none⟩ (.slice B1 B2 B3)) from (hC.setCell (p := ⟨g,0,none⟩) hgw1 _).setCell (p := ⟨g,1,none⟩) hgw1 _)
   have HKa4 := hid K0; have HKb4 := hid K1; have HB4 := hid hb4
   have HZ4 := hid (show ((wa.setCell ⟨g,0,none⟩ (.bool (encI (numv r * denv s)).neg)).setCell ⟨g,1,none⟩ (.slice B1 B2 B3)).heap.size = wa.heap.size by simp)
   have hgl4 := hgw.2
   clear K0 K1 hb4
   obtain ⟨hc_wa,hf_wa⟩ := bcell hC
   have hz0_wa : w.heap.size < wa.heap.size := by have := hC.size; (try simp at this); omega
   have hz1_wa : w.heap.size + 1 < wa.heap.size := by have := hC.size; (try simp at this); omega
   have hz2_wa : w.heap.size + 1 + 1 < wa.heap.size := by have := hC.size; (try simp at this); omega
   go_wp2_with fail
   generalize ((wa.setCell ⟨g,0,none⟩ (.bool (encI (numv r * denv s)).neg)).setCell ⟨g,1,none⟩ (.slice B1 B2 B3)) = W4 at *
   have hgm4 : g < W4.heap.size := by have := HZ4.out; omega
   have kka4 := HKa4.out
   have kkb4 := HKb4.out
   obtain ⟨hc_W4,hf_W4⟩ := bcell HBn4.out
   have hz4s : w1.heap.size ≤ W4.heap.size := HBn4.out.size
   have hz4a : w.heap.size < W4.heap.size := by omega
   have hz4b : w.heap.size + 1 < W4.heap.size := by omega
   have hz4c : w.heap.size + 1 + 1 < W4.heap.size := by omega
   clear G0 G1 F0 F1 hc_wa hf_wa e9 e10 hC hz0_wa hz1_wa hz2_wa hgw hgw1
   have hbW4 := HB4.out
   refine wp_region_last (by simp) (by kernel_rfl) (by kernel_rfl) (by kernel_rfl) (by kernel_rfl) ?_
   dsimp only [List.dropLast,List.getLast,List.length]
   iterate 8
    apply walkM_eq
    case h =>
     intro yq zq wq hC hd
     obtain ⟨hcq,hfq⟩ := bcell hC
     simp at hd
     refine ⟨by go_simp; done, ?_⟩
     go_simp
     first | (go_ints; exact rfl) | (go_ints; rw [if_pos (by omega)]; try exact rfl) | exact rfl | (rw [if_pos (by omega)]; try exact rfl)
   refine walkM_call (MP.sl (dig (val s.num.mag * val r.den).toNat)) ?_ ?_
   ·intro yq zq wq hC hd
    obtain ⟨hcq,hfq⟩ := bcell hC
    simp at hd
    refine ⟨by go_simp; done, ?_⟩
    apply Exists.intro
    apply Exists.intro
    constructor
    ·go_simp
     exact ⟨rfl,rfl⟩
    ·exact gives_sl ((spec_l02Mul A3 A2 n3 n2 c3 c2 s.num.mag r.den _ _ wq (Sl.below H3.out (by (with_reducible repeat first | exact Below.refl _ _ | (refine Below.set ?_ ?_ _; rotate_left; (simp <;> omega)) | refine Below.box_ ?_ _ | refine Below.next ?_ (by assumption)))) (Sl.below H2.out (by (with_reducible repeat first | exact Below.refl _ _ | (refine Below.set ?_ ?_ _; rotate_left; (simp <;> omega)) | refine Below.box_ ?_ _ | refine Below.next ?_ (by assumption)))) VS.out.mag.1 VR.out.den.1 N3.out N2.out).mono fun _ _ h => row_gives (dig_can _).1.i64 h)
   refine walkM_call (MP.agg (encI (numv s * denv r))) ?_ ?_
   ·intro yq zq wq hC hd
    obtain ⟨hcq,hfq⟩ := bcell hC
    simp at hd
    refine ⟨by go_simp; done, ?_⟩
    apply Exists.intro
    apply Exists.intro
    constructor
    ·go_simp
     exact ⟨rfl,rfl⟩
    ·obtain ⟨_,⟨A,n,c,e,hs⟩, _⟩ := hd
     rw [e]
     have C := spec_l03Make s.num.neg A n c _ _ wq hs (dig_can _) (by rw [← hs.1]; exact Nat.le_trans (mul_len VS.out.mag.1 VR.out.den.1 VS.out.num24 VR.out.den24) (by decide))
     rw [nd_mk VS.out.mag.1 VR.out.den.1 hs.1] at C
     exact gives_agg C
   refine walkM_new #[.bool false, .slice none 0 0] 30 ?_ ?_
   ·intro yq zq wq hC hd
    refine ⟨by go_simp; done, ?_⟩
    go_simp
   intro yq zq wb hC hd hdis0
   have hdis := hid hdis0
   clear hdis0
   simp at hd
   have q9 := hd.2.2.2.2.2.2.2.2.2.1
   have q10 := hd.2.2.2.2.2.2.2.2.2.2
   obtain ⟨⟨ha9,hf9⟩,hr9⟩ := q9
   obtain ⟨D1,D2,D3,Dt,e9,hz9,hs9⟩ := TBigInt.agg ha9
   obtain ⟨⟨g5,e10,hz10,hg⟩,hr10⟩ := q10
   have hgt : ∀ b ∈ Dt,b ≠ g5 := fun b hb e => by
    have := hdis.out 9 10 (by decide) (by decide) (by decide) b (by rw [hz9]; exact hb)
    rw [hz10] at this; simp at this; exact this e
   rw [hz9] at hf9 hr9
   have hgw : W4.heap.size ≤ g5 ∧ g5 < wb.heap.size := by have := hr10 g5 (by rw [hz10]; simp); omega
   have hgw1 := hgw.1
   obtain ⟨G0,F0⟩ := box_cell hg (j := 0) rfl
   obtain ⟨G1,F1⟩ := box_cell hg (j := 1) rfl
   obtain ⟨k1,k2⟩ := keep_sl hs9 hf9 hgt (.bool (encI (numv s * denv r)).neg) (.slice D1 D2 D3)
   have HK5 := hid k1
   clear hd hdis hs9 hf9 hr9 hr10 hg hgt k1 k2 ha9 hz9 hz10
   have hb4 : Below w.heap.size w ((wb.setCell ⟨g5,0,none⟩ (.bool (encI (numv s * denv r)).neg)).setCell ⟨g5,1,none⟩ (.slice D1 D2 D3)) := by (with_reducible repeat first | exact Below.refl _ _ | (refine Below.set ?_ ?_ _; rotate_left; (simp <;> omega)) | refine Below.box_ ?_ _ | refine Below.next ?_ (by assumption))
   have K1 : ((wb.setCell ⟨g5,0,none⟩ (.bool (encI (numv s * denv r)).neg)).setCell ⟨g5,1,none⟩ (.slice D1 D2 D3)).cell? ⟨g5,1,none⟩ = some (.slice D1 D2 D3) :=
    World.cell?_setCell_same _ _ _ ((World.cell?_setCell_other wb ⟨g5,0,none⟩ ⟨g5,1,none⟩ _ (by simp)).trans G1)
   have K0 : ((wb.setCell ⟨g5,0,none⟩ (.bool (encI (numv s * denv r)).neg)).setCell ⟨g5,1,none⟩ (.slice D1 D2 D3)).cell? ⟨g5,0,none⟩ = some (.bool (encI (numv s * denv r)).neg) :=
    (World.cell?_setCell_other _ ⟨g5,1,none⟩ ⟨g5,0,none⟩ _ (by simp)).trans (World.cell?_setCell_same _ _ _ G0)
   have HBn5 := hid (show Below W4.heap.size W4 ((wb.setCell ⟨g5,0,none⟩ (.bool (encI (numv s * denv r)).neg)).setCell ⟨g5,1,none⟩ (.slice D1 D2 D3)) from (hC.setCell (p := ⟨g5,0,none⟩) hgw1 _).setCell (p := ⟨g5,1,none⟩) hgw1 _)
   have HKa5 := hid K0; have HKb5 := hid K1; have HB5 := hid hb4
   have HZ5 := hid (show ((wb.setCell ⟨g5,0,none⟩ (.bool (encI (numv s * denv r)).neg)).setCell ⟨g5,1,none⟩ (.slice D1 D2 D3)).heap.size = wb.heap.size by simp)
   have hgl5 := hgw.2
   clear K0 K1 hb4
   obtain ⟨hc_wb,hf_wb⟩ := bcell hC
   have hz0_wb : w.heap.size < wb.heap.size := by have := hC.size; (try simp at this); omega
   have hz1_wb : w.heap.size + 1 < wb.heap.size := by have := hC.size; (try simp at this); omega
   have hz2_wb : w.heap.size + 1 + 1 < wb.heap.size := by have := hC.size; (try simp at this); omega
   go_wp2_with fail
   generalize ((wb.setCell ⟨g5,0,none⟩ (.bool (encI (numv s * denv r)).neg)).setCell ⟨g5,1,none⟩ (.slice D1 D2 D3)) = W5 at *
   have hgm5 : g5 < W5.heap.size := by have := HZ5.out; omega
   have kka5 := HKa5.out
   have kkb5 := HKb5.out
   obtain ⟨hc_W5,hf_W5⟩ := bcell HBn5.out
   have hz5s : W4.heap.size ≤ W5.heap.size := HBn5.out.size
   have hz5a : w.heap.size < W5.heap.size := by omega
   have hz5b : w.heap.size + 1 < W5.heap.size := by omega
   have hz5c : w.heap.size + 1 + 1 < W5.heap.size := by omega
   clear G0 G1 F0 F1 hc_wb hf_wb e9 e10 hC hz0_wb hz1_wb hz2_wb hgw hgw1
   have hbW5 := HB5.out
   have bb5 : Below w.heap.size w W5 := hbW5
   have T4 := hid (show (encI (numv r * denv s)).mag.length ≤ 59 from Nat.le_trans (enc_len (len_mul VR.out.numlt VS.out.denlt)) (by decide))
   have T5 := hid (show (encI (numv s * denv r)).mag.length ≤ 59 from Nat.le_trans (enc_len (len_mul VS.out.numlt VR.out.denlt)) (by decide))
   have T6 := hid (show (encI (numv r * denv s + numv s * denv r)).mag.length ≤ 65536 by
    have h := enc_len (len_add (len_mul VR.out.numlt VS.out.denlt) (len_mul VS.out.numlt VR.out.denlt))
    omega)
   go_wp2_with fail
   have C := spec_l03Add _ _ (encI (numv r * denv s)) (encI (numv s * denv r)) _ _ W5 (TBigInt.mkAgg (Sl.below HK4.out HBn5.out)) (TBigInt.mkAgg HK5.out) (encI_can _) (encI_can _) T4.out T5.out
   rw [ival_enc,ival_enc] at C
   refine C.mono ?_
   clear C
   rintro _ w6 ⟨v6,s6,rfl,ha6,ho6,hb6⟩
   obtain ⟨E1,E2,E3,Et,rfl,hz,hs6⟩ := TBigInt.agg ha6
   have HS6 := hid hs6
   clear ha6 ho6 hz hs6 kka4 kkb4 kka5 kkb5
   obtain ⟨hc_w6,hf_w6⟩ := bcell hb6
   have hz0_w6 : w.heap.size < w6.heap.size := by have := hb6.size; (try simp at this); omega
   have hz1_w6 : w.heap.size + 1 < w6.heap.size := by have := hb6.size; (try simp at this); omega
   have hz2_w6 : w.heap.size + 1 + 1 < w6.heap.size := by have := hb6.size; (try simp at this); omega
   go_wp2_with fail
   have bb6 : Below w.heap.size w w6 := Below.next bb5 hb6
   refine wp_region_last (by simp) (by kernel_rfl) (by kernel_rfl) (by kernel_rfl) (by kernel_rfl) ?_
   dsimp only [List.dropLast,List.getLast,List.length]
   iterate 8
    apply walkM_eq
    case h =>
     intro yq zq wq hC hd
     obtain ⟨hcq,hfq⟩ := bcell hC
     simp at hd
     refine ⟨by go_simp; done, ?_⟩
     go_simp
     first | (go_ints; exact rfl) | (go_ints; rw [if_pos (by omega)]; try exact rfl) | exact rfl | (rw [if_pos (by omega)]; try exact rfl)
   refine walkM_call (MP.sl (dig (denv r * denv s).toNat)) ?_ ?_
   ·intro yq zq wq hC hd
    obtain ⟨hcq,hfq⟩ := bcell hC
    simp at hd
    refine ⟨by go_simp; done, ?_⟩
    apply Exists.intro
    apply Exists.intro
    constructor
    ·go_simp
     exact ⟨rfl,rfl⟩
    ·exact gives_sl ((spec_l02Mul A2 A4 n2 n4 c2 c4 r.den s.den _ _ wq (Sl.below H2.out (by (with_reducible repeat first | exact Below.refl _ _ | (refine Below.set ?_ ?_ _; rotate_left; (simp <;> omega)) | refine Below.box_ ?_ _ | refine Below.next ?_ (by assumption)))) (Sl.below H4.out (by (with_reducible repeat first | exact Below.refl _ _ | (refine Below.set ?_ ?_ _; rotate_left; (simp <;> omega)) | refine Below.box_ ?_ _ | refine Below.next ?_ (by assumption)))) VR.out.den.1 VS.out.den.1 N2.out N4.out).mono fun _ _ h => row_gives (dig_can _).1.i64 h)
   refine walkM_call (MP.agg (mkR (numv r * denv s + numv s * denv r) (denv r * denv s))) ?_ ?_
   ·intro yq zq wq hC hd
    obtain ⟨hcq,hfq⟩ := bcell hC
    simp at hd
    refine ⟨by go_simp; done, ?_⟩
    apply Exists.intro
    apply Exists.intro
    constructor
    ·go_simp
     exact ⟨rfl,rfl⟩
    ·obtain ⟨_, _,⟨A',n',c',e',hs'⟩, _⟩ := hd
     rw [e']
     have C := spec_l04Low (encI (numv r * denv s + numv s * denv r)).neg E1 A' E2 n' E3 c' (encI (numv r * denv s + numv s * denv r)).mag _ _ _ wq (Sl.below (Sl.below HS6.out (Below.box _)) hC) hs' (encI_can _) (dig_can _) (by rw [← hs'.1]; exact DD.out.pos) (by rw [← HS6.out.1]; exact T6.out) (by rw [← hs'.1]; exact DD.out.le)
     rw [show sval (encI (numv r * denv s + numv s * denv r)).neg (encI (numv r * denv s + numv s * denv r)).mag = numv r * denv s + numv s * denv r from ival_enc _,DD.out.v] at C
     exact gives_agg C
   intro yq zq wc hC hd hdis0
   have hdis := hid hdis0
   clear hdis0
   simp at hd
   have q9 := hd.2.2.2.2.2.2.2.2.2
   obtain ⟨⟨ha,hf⟩,hr⟩ := q9
   obtain ⟨P1,P2,P3,Pt,Q1,Q2,Q3,Qt,e9,hz,hs1,hs2⟩ := TRat.agg ha
   have HA := hid ha; have HF := hid hf; have HR := hid hr
   clear hd hdis hz hs1 hs2 ha hf hr
   have HL := hid (show w.heap.size + 3 ≤ (w6.alloc (.cells #[.bool (encI (numv r * denv s + numv s * denv r)).neg, .slice E1 E2 E3] 30)).heap.size by simp; omega)
   obtain ⟨hc_wc,hf_wc⟩ := bcell hC
   have hz0_wc : w.heap.size < wc.heap.size := by have := hC.size; simp at this; omega
   have hz1_wc : w.heap.size + 1 < wc.heap.size := by have := hC.size; simp at this; omega
   have hz2_wc : w.heap.size + 1 + 1 < wc.heap.size := by have := hC.size; simp at this; omega
   have hzz : w.heap.size + 1 + 1 < w6.heap.size + 1 := by omega
   go_wp2
   refine bodyPost_ret (v := .agg #[.bool (mkR (numv r * denv s + numv s * denv r) (denv r * denv s)).num.neg, .slice P1 P2 P3, .slice Q1 Q2 Q3]) (by simp [results,Tryz.results122,go_sem, *]) rfl ?_
   rw [e9] at HA
   refine agg_fin (lo := w.heap.size + 3) HA.out HF.out (fun b hb => by have := (HR.out b hb).1; have := HL.out; omega) (by omega) ?_ ?_
   ·(with_reducible repeat first | exact Above.refl _ _ | (refine Above.set ?_ ?_ _; rotate_left; (simp <;> omega)) | refine Above.box ?_ _ | refine Above.below ?_ (by assumption))
   ·(with_reducible repeat first | exact Below.refl _ _ | (refine Below.set ?_ ?_ _; rotate_left; (simp <;> omega)) | refine Below.box_ ?_ _ | refine Below.next ?_ (by assumption))
end Go.Proofs.YtpfipnankjeokaaGreat.X

/- The reference's fractions: RatAdd,RatSub. -/
namespace Go.Proofs.YtpfipnankjeokaaGreat.X
open Go.RowKit Go.XB Go.XN
attribute [local go_sem] fillBy opAt deps depOf Region.wanted yielded
attribute [local simp] deps depOf MP.eq MP.agg MP.sl Facts
set_option linter.constructorNameAsVariable false

set_option maxHeartbeats 2000000 in
set_option maxRecDepth 10000 in
theorem spec_RatAdd (v1 v2 : Value) (r s : TRat) (b1 b2 : List Nat) (w : World) (hx : Agg w v1 r b1) (hy : Agg w v2 s b2) :
  Calls Tryz.prog 72 #[v1,v2] w (GivesAgg w (radd r s)) := by
 have HX := hid hx; have HY := hid hy
 obtain ⟨A1,n1,c1,s1,A2,n2,c2,s2,rfl,rfl,hs1,hs2⟩ := TRat.agg hx
 obtain ⟨A3,n3,c3,s3,A4,n4,c4,s4,rfl,rfl,hs3,hs4⟩ := TRat.agg hy
 clear hs1 hs2 hs3 hs4 hx hy
 cases hr : ratOkB r
 ·have E := hid (show radd r s = zeroR by unfold radd; rw [hr]; rfl)
  have R := hid hr
  clear hr
  go_enter Tryz.func72,Tryz.ntmps72
  go_wp2_with fail
  have C := spec_RatOk _ r _ (((w.alloc (.cells #[.bool r.num.neg, .slice A1 n1 c1, .slice A2 n2 c2] 32)).alloc (.cells #[.bool s.num.neg, .slice A3 n3 c3, .slice A4 n4 c4] 32)).alloc (.cells #[.bool false, .slice none 0 0, .slice none 0 0] 32)) (Agg.below HX.out (by (with_reducible repeat first | exact Below.refl _ _ | (refine Below.set ?_ ?_ _; rotate_left; (simp <;> omega)) | refine Below.box_ ?_ _ | refine Below.next ?_ (by assumption))))
  rw [R.out] at C
  refine C.mono ?_
  clear C
  rintro _ w1 ⟨rfl,hb1⟩
  obtain ⟨hc_w1,hf_w1⟩ := bcell hb1
  have hz0_w1 : w.heap.size < w1.heap.size := by have := hb1.size; (try simp at this); omega
  have hz1_w1 : w.heap.size + 1 < w1.heap.size := by have := hb1.size; (try simp at this); omega
  have hz2_w1 : w.heap.size + 1 + 1 < w1.heap.size := by have := hb1.size; (try simp at this); omega
  go_wp2
  refine bodyPost_ret (v := .agg #[.bool false, .slice none 0 0, .slice none 0 0]) (by simp [results,Tryz.results72,go_sem, *]) rfl ?_
  rw [E.out]
  exact gives_zero (by (with_reducible repeat first | exact Below.refl _ _ | (refine Below.set ?_ ?_ _; rotate_left; (simp <;> omega)) | refine Below.box_ ?_ _ | refine Below.next ?_ (by assumption)))
 cases hs : ratOkB s
 ·have E := hid (show radd r s = zeroR by unfold radd; rw [hr,hs]; rfl)
  have R := hid hr; have S := hid hs
  clear hr hs
  go_enter Tryz.func72,Tryz.ntmps72
  go_wp2_with fail
  have C := spec_RatOk _ r _ (((w.alloc (.cells #[.bool r.num.neg, .slice A1 n1 c1, .slice A2 n2 c2] 32)).alloc (.cells #[.bool s.num.neg, .slice A3 n3 c3, .slice A4 n4 c4] 32)).alloc (.cells #[.bool false, .slice none 0 0, .slice none 0 0] 32)) (Agg.below HX.out (by (with_reducible repeat first | exact Below.refl _ _ | (refine Below.set ?_ ?_ _; rotate_left; (simp <;> omega)) | refine Below.box_ ?_ _ | refine Below.next ?_ (by assumption))))
  rw [R.out] at C
  refine C.mono ?_
  clear C
  rintro _ w1 ⟨rfl,hb1⟩
  obtain ⟨hc_w1,hf_w1⟩ := bcell hb1
  have hz0_w1 : w.heap.size < w1.heap.size := by have := hb1.size; (try simp at this); omega
  have hz1_w1 : w.heap.size + 1 < w1.heap.size := by have := hb1.size; (try simp at this); omega
  have hz2_w1 : w.heap.size + 1 + 1 < w1.heap.size := by have := hb1.size; (try simp at this); omega
  go_wp2_with fail
  have C := spec_RatOk _ s _ w1 (Agg.below HY.out (by (with_reducible repeat first | exact Below.refl _ _ | (refine Below.set ?_ ?_ _; rotate_left; (simp <;> omega)) | refine Below.box_ ?_ _ | refine Below.next ?_ (by assumption))))
  rw [S.out] at C
  refine C.mono ?_
  clear C
  rintro _ w2 ⟨rfl,hb2⟩
  obtain ⟨hc_w2,hf_w2⟩ := bcell hb2
  have hz0_w2 : w.heap.size < w2.heap.size := by have := hb2.size; (try simp at this); omega
  have hz1_w2 : w.heap.size + 1 < w2.heap.size := by have := hb2.size; (try simp at this); omega
  have hz2_w2 : w.heap.size + 1 + 1 < w2.heap.size := by have := hb2.size; (try simp at this); omega
  go_wp2
  refine bodyPost_ret (v := .agg #[.bool false, .slice none 0 0, .slice none 0 0]) (by simp [results,Tryz.results72,go_sem, *]) rfl ?_
  rw [E.out]
  exact gives_zero (by (with_reducible repeat first | exact Below.refl _ _ | (refine Below.set ?_ ?_ _; rotate_left; (simp <;> omega)) | refine Below.box_ ?_ _ | refine Below.next ?_ (by assumption)))
 have R := hid hr; have S := hid hs
 have VR := hid (ratOkB_iff.1 hr); have VS := hid (ratOkB_iff.1 hs)
 have E := hid (show radd r s = mkR (numv r * denv s + numv s * denv r) (denv r * denv s) by unfold radd; rw [hr,hs]; rfl)
 clear hr hs
 go_enter Tryz.func72,Tryz.ntmps72
 go_wp2_with fail
 have C := spec_RatOk _ r _ (((w.alloc (.cells #[.bool r.num.neg, .slice A1 n1 c1, .slice A2 n2 c2] 32)).alloc (.cells #[.bool s.num.neg, .slice A3 n3 c3, .slice A4 n4 c4] 32)).alloc (.cells #[.bool false, .slice none 0 0, .slice none 0 0] 32)) (Agg.below HX.out (by (with_reducible repeat first | exact Below.refl _ _ | (refine Below.set ?_ ?_ _; rotate_left; (simp <;> omega)) | refine Below.box_ ?_ _ | refine Below.next ?_ (by assumption))))
 rw [R.out] at C
 refine C.mono ?_
 clear C
 rintro _ w1 ⟨rfl,hb1⟩
 obtain ⟨hc_w1,hf_w1⟩ := bcell hb1
 have hz0_w1 : w.heap.size < w1.heap.size := by have := hb1.size; (try simp at this); omega
 have hz1_w1 : w.heap.size + 1 < w1.heap.size := by have := hb1.size; (try simp at this); omega
 have hz2_w1 : w.heap.size + 1 + 1 < w1.heap.size := by have := hb1.size; (try simp at this); omega
 go_wp2_with fail
 have C := spec_RatOk _ s _ w1 (Agg.below HY.out (by (with_reducible repeat first | exact Below.refl _ _ | (refine Below.set ?_ ?_ _; rotate_left; (simp <;> omega)) | refine Below.box_ ?_ _ | refine Below.next ?_ (by assumption))))
 rw [S.out] at C
 refine C.mono ?_
 clear C
 rintro _ w2 ⟨rfl,hb2⟩
 obtain ⟨hc_w2,hf_w2⟩ := bcell hb2
 have hz0_w2 : w.heap.size < w2.heap.size := by have := hb2.size; (try simp at this); omega
 have hz1_w2 : w.heap.size + 1 < w2.heap.size := by have := hb2.size; (try simp at this); omega
 have hz2_w2 : w.heap.size + 1 + 1 < w2.heap.size := by have := hb2.size; (try simp at this); omega
 go_wp2_with fail
 refine (spec_l04Add _ _ r s _ _ w2 (Agg.below HX.out (by (with_reducible repeat first | exact Below.refl _ _ | (refine Below.set ?_ ?_ _; rotate_left; (simp <;> omega)) | refine Below.box_ ?_ _ | refine Below.next ?_ (by assumption)))) (Agg.below HY.out (by (with_reducible repeat first | exact Below.refl _ _ | (refine Below.set ?_ ?_ _; rotate_left; (simp <;> omega)) | refine Below.box_ ?_ _ | refine Below.next ?_ (by assumption)))) VR.out VS.out).mono ?_
 rintro _ w4 ⟨v4,s5,rfl,ha4,ho4,hb4⟩
 obtain ⟨B1,m1,d1,t1,B2,m2,d2,t2,rfl,hz, _, _⟩ := TRat.agg ha4
 have HA := hid ha4; have HO := hid ho4
 have HL := hid (show w.heap.size + 3 ≤ w2.heap.size by omega)
 clear ha4 ho4 hz
 obtain ⟨hc_w4,hf_w4⟩ := bcell hb4
 have hz0_w4 : w.heap.size < w4.heap.size := by have := hb4.size; (try simp at this); omega
 have hz1_w4 : w.heap.size + 1 < w4.heap.size := by have := hb4.size; (try simp at this); omega
 have hz2_w4 : w.heap.size + 1 + 1 < w4.heap.size := by have := hb4.size; (try simp at this); omega
 go_wp2
 refine bodyPost_ret (v := .agg #[.bool (mkR (numv r * denv s + numv s * denv r) (denv r * denv s)).num.neg, .slice B1 m1 d1, .slice B2 m2 d2]) (by simp [results,Tryz.results72,go_sem, *]) rfl ?_
 rw [E.out]
 refine agg_fin (lo := w.heap.size + 3) HA.out HO.out.free (fun b hb => by have := (HO.out.range b hb).1; have := HL.out; omega) (by omega) ?_ ?_
 ·(with_reducible repeat first | exact Above.refl _ _ | (refine Above.set ?_ ?_ _; rotate_left; (simp <;> omega)) | refine Above.box ?_ _ | refine Above.below ?_ (by assumption))
 ·(with_reducible repeat first | exact Below.refl _ _ | (refine Below.set ?_ ?_ _; rotate_left; (simp <;> omega)) | refine Below.box_ ?_ _ | refine Below.next ?_ (by assumption))

end Go.Proofs.YtpfipnankjeokaaGreat.X

/- The sum of a list of fractions: sumOf,SumOf of the program; l19Sum,SumOf of the reference. -/
namespace Go.XN
open Go.XB
def rsum (xs : List TRat) : TRat := xs.foldl radd (rint 0)
end Go.XN
namespace Go.XB
theorem Free.keep {w w' : World} {bs : List Nat} (h : Free w bs) (hk : ∀ g ∈ bs,w'.heap[g]? = w.heap[g]?) : Free w' bs := ⟨h.1,fun b hb => by obtain ⟨cs,t,e⟩ := h.2 b hb; exact ⟨cs,t,(hk b hb).trans e⟩⟩
end Go.XB
namespace Go.Proofs.YtpfipnankjeokaaGreat.X
open Go.RowKit Go.XB Go.XN
attribute [local go_sem] fillBy opAt deps depOf Region.wanted yielded
attribute [local simp] deps depOf MP.eq MP.agg MP.sl Facts
set_option linter.constructorNameAsVariable false

end Go.Proofs.YtpfipnankjeokaaGreat.X

/- Sums of fractions: their value does not depend on the order (plain). -/
namespace Go.Proofs.YtpfipnankjeokaaGreat.X
open Go.RowKit Go.XB Go.XN

theorem cop_dvd {a b c : Int} (h1 : Int.gcd a b = 1) (h : b ∣ a * c) : b ∣ c := by
 have h2 : b.natAbs ∣ a.natAbs * c.natAbs := by rw [← Int.natAbs_mul]; exact Int.natAbs_dvd_natAbs.2 h
 have h3 : Nat.Coprime b.natAbs a.natAbs := by rw [Nat.coprime_comm]; exact h1
 exact Int.natAbs_dvd_natAbs.1 (h3.dvd_of_dvd_mul_left h2)

theorem cop_eq {a b c d : Int} (hb : 0 < b) (hd : 0 < d) (h1 : Int.gcd a b = 1) (h2 : Int.gcd c d = 1) (e : a * d = c * b) : a = c ∧ b = d := by
 have hbd : b ∣ d := by
  have h : b ∣ a * d := ⟨c,by rw [e,Int.mul_comm]⟩
  exact cop_dvd h1 h
 have hdb : d ∣ b := by
  have h : d ∣ c * b := ⟨a,by rw [← e,Int.mul_comm]⟩
  exact cop_dvd h2 h
 have hbe : b = d := Int.dvd_antisymm (Int.le_of_lt hb) (Int.le_of_lt hd) hbd hdb
 subst hbe
 exact ⟨Int.eq_of_mul_eq_mul_right (by omega) e,rfl⟩

theorem gcd_parts {A B : Int} (hB : 0 < B) : ∃ g a b : Int,0 < g ∧ A = g * a ∧ B = g * b ∧ 0 < b ∧ Int.gcd a b = 1 ∧ A / Int.gcd A B = a ∧ B / Int.gcd A B = b := by
 have hg : 0 < Int.gcd A B := Int.gcd_pos_of_ne_zero_right A (by omega)
 have hg' : (0 : Int) < Int.gcd A B := by omega
 have h1 := Int.mul_ediv_cancel' (Int.gcd_dvd_left (a := A) (b := B))
 have h2 := Int.mul_ediv_cancel' (Int.gcd_dvd_right (a := A) (b := B))
 refine ⟨Int.gcd A B,A / Int.gcd A B,B / Int.gcd A B,hg',h1.symm,h2.symm, ?_, ?_,rfl,rfl⟩
 ·exact Int.ediv_pos_of_pos_of_dvd hB (Int.le_of_lt hg') (Int.gcd_dvd_right _ _)
 ·exact Int.gcd_ediv_gcd_ediv_gcd hg

theorem mk_ratio {T : TRat} (hT : RatV T) {A B : Int} (hB : 0 < B) (e : A * denv T = numv T * B) : mkR A B = T := by
 obtain ⟨g,a,b,hg,ha,hb,hb0,h1,e1,e2⟩ := gcd_parts (A := A) hB
 have hc : Int.gcd (numv T) (denv T) = 1 := by
  have := hT.one
  unfold numv denv ival
  split
  ·rw [Int.neg_gcd]; exact this
  ·exact this
 have e3 : a * denv T = numv T * b := by
  rw [ha,hb] at e
  refine Int.eq_of_mul_eq_mul_left (a := g) (by omega) ?_
  rw [← Int.mul_assoc,e,Int.mul_left_comm]
 obtain ⟨ea,eb⟩ := cop_eq hb0 hT.den0 h1 hc e3
 have eb' : b = val T.den := eb
 unfold mkR
 rw [e1,e2,ea,eb',hT.den.dig_natAbs]
 have hn : dig (numv T).natAbs = T.num.mag := by
  unfold numv
  rw [ival_natAbs,hT.mag.dig_natAbs]
 rw [hn,if_pos ⟨hT.num24,hT.den24⟩]
 unfold numv
 rw [enc_ival hT.num]

theorem mk_val {A B : Int} (hB : 0 < B) (h : ratOkB (mkR A B) = true) : numv (mkR A B) * B = A * denv (mkR A B) := by
 obtain ⟨g,a,b,hg,ha,hb,hb0,h1,e1,e2⟩ := gcd_parts (A := A) hB
 have hm : mkR A B = ⟨encI a,dig b.natAbs⟩ := by
  unfold mkR at h ⊢
  rw [e1,e2] at h ⊢
  split
  ·rfl
  ·rename_i h2; rw [if_neg h2] at h; rw [ratOkB_zeroR] at h; cases h
 rw [hm]
 unfold numv denv
 simp only [ival_enc,val_dig]
 rw [ha,hb,Int.natAbs_of_nonneg (by omega)]
 rw [Int.mul_left_comm,Int.mul_assoc]

theorem radd_eq {r s : TRat} (hr : ratOkB r = true) (hs : ratOkB s = true) : radd r s = mkR (numv r * denv s + numv s * denv r) (denv r * denv s) := by
 unfold radd; rw [hr,hs]; rfl

def Over (p : Int) (r : TRat) (u : Int) : Prop := numv r * p = denv r * u
end Go.Proofs.YtpfipnankjeokaaGreat.X

/- A result of reckoning is valid just if its denominator is there (plain). -/
namespace Go.Proofs.YtpfipnankjeokaaGreat.X
open Go.RowKit Go.XB Go.XN

theorem mk_den {A B : Int} (hB : 0 < B) : (!(mkR A B).den.isEmpty) = ratOkB (mkR A B) := by
 obtain ⟨g,a,b,hg,ha,hb,hb0,h1,e1,e2⟩ := gcd_parts (A := A) hB
 unfold mkR
 rw [e1,e2]
 split
 ·rename_i h2
  have hv : val (dig b.natAbs) = b := by rw [val_dig]; omega
  have hne : dig b.natAbs ≠ [] := by intro e; rw [e] at hv; simp [val] at hv; omega
  have hV : ratOkB ⟨encI a,dig b.natAbs⟩ = true := by
   refine ratOkB_iff.2 ⟨?_,dig_can _,by rw [hv]; exact hb0, ?_,h2.2, ?_⟩
   ·show bigOkB (encI a) = true
    rw [bigOkB_iff]
    refine ⟨⟨by have := h2.1; show (dig a.natAbs).length ≤ _; omega,dig_can _⟩, ?_⟩
    intro h3
    have h4 : a < 0 := by simpa [encI] using h3
    show dig a.natAbs ≠ []
    intro e
    have h5 := val_dig a.natAbs
    rw [e] at h5
    simp [val] at h5
    omega
   ·exact h2.1
   ·show Int.gcd (val (dig a.natAbs)) (val (dig b.natAbs)) = 1
    rw [val_dig,val_dig]
    simpa [Int.gcd] using h1
  rw [hV]
  cases hd : dig b.natAbs with
  | nil => exact absurd hd hne
  | cons _ _ => rfl
 ·rfl
theorem radd_den (r s : TRat) : (!(radd r s).den.isEmpty) = ratOkB (radd r s) := by
 unfold radd
 split
 ·rename_i h
  rw [Bool.and_eq_true] at h
  exact mk_den (Int.mul_pos (ratOkB_iff.1 h.1).den0 (ratOkB_iff.1 h.2).den0)
 ·rfl
theorem rmul_den (r s : TRat) : (!(rmul r s).den.isEmpty) = ratOkB (rmul r s) := by
 unfold rmul
 split
 ·rename_i h
  rw [Bool.and_eq_true] at h
  exact mk_den (Int.mul_pos (ratOkB_iff.1 h.1).den0 (ratOkB_iff.1 h.2).den0)
 ·rfl
end Go.Proofs.YtpfipnankjeokaaGreat.X

/- Points: what their functions compute (plain). -/
namespace Go.XN
open Go.XB
def zeroP : TPoint := ⟨zeroR,zeroR⟩
def ptOkB (p : TPoint) : Bool := ratOkB p.x && ratOkB p.y
def ifP (p : TPoint) : TPoint := bif ptOkB p then p else zeroP
def padd (p q : TPoint) : TPoint := ifP ⟨radd p.x q.x,radd p.y q.y⟩
def psub (p q : TPoint) : TPoint := ifP ⟨rsub p.x q.x,rsub p.y q.y⟩
def pscale (r : TRat) (p : TPoint) : TPoint := ifP ⟨rmul r p.x,rmul r p.y⟩
def cross (p q : TPoint) : TRat := rsub (rmul p.x q.y) (rmul p.y q.x)
def darea (a b c : TPoint) : TRat := cross (psub b a) (psub c a)
def pmid (p q : TPoint) : TPoint := pscale (mkR 1 2) (padd p q)
end Go.XN
namespace Go.Proofs.YtpfipnankjeokaaGreat.X
open Go.RowKit Go.XB Go.XN
attribute [local go_sem] fillBy opAt deps depOf Region.wanted yielded
attribute [local simp] deps depOf MP.eq MP.agg MP.sl Facts
set_option linter.constructorNameAsVariable false

theorem rsub_den (r s : TRat) : (!(rsub r s).den.isEmpty) = ratOkB (rsub r s) := by
 unfold rsub
 split
 ·rename_i h
  rw [Bool.and_eq_true] at h
  exact mk_den (Int.mul_pos (ratOkB_iff.1 h.1).den0 (ratOkB_iff.1 h.2).den0)
 ·rfl
theorem ifP_den (p : TPoint) : (!(ifP p).x.den.isEmpty) = ptOkB (ifP p) := by
 unfold ifP
 cases h : ptOkB p
 ·rfl
 ·have h2 := h
  unfold ptOkB at h2
  rw [Bool.and_eq_true] at h2
  have h3 := (ratOkB_iff.1 h2.1).den0
  rw [cond_true,h]
  cases hd : p.x.den with
  | nil => rw [hd] at h3; simp [val] at h3
  | cons _ _ => rfl
theorem zeroP_agg (w : World) : Agg w (.agg #[.bool false, .slice none 0 0, .slice none 0 0, .bool false, .slice none 0 0, .slice none 0 0]) zeroP [] := TPoint.mkAgg (x := zeroP) (Sl.nil w) (Sl.nil w) (Sl.nil w) (Sl.nil w)
theorem gives_zeroP {w W : World} (hb : Below w.heap.size w W) : GivesAgg w zeroP (.returned (.agg #[.bool false, .slice none 0 0, .slice none 0 0, .bool false, .slice none 0 0, .slice none 0 0])) W := ⟨_, [],rfl,zeroP_agg W,Own.nil _ _,hb⟩
theorem Free.join {w : World} {a b : List Nat} (h1 : Free w a) (h2 : Free w b) (hd : ∀ x ∈ a,x ∉ b) : Free w (a ++ b) :=
 ⟨List.nodup_append.2 ⟨h1.1,h2.1,fun x hx _ hy e => hd x hx (e ▸ hy)⟩,fun x hx => (List.mem_append.1 hx).elim (h1.2 x) (h2.2 x)⟩
theorem pt_join {w : World} {x : TPoint} {u0 u1 u2 u3 u4 u5 : Value} {b1 b2 : List Nat} (h1 : Agg w (.agg #[u0,u1,u2]) x.x b1) (h2 : Agg w (.agg #[u3,u4,u5]) x.y b2) : Agg w (.agg #[u0,u1,u2,u3,u4,u5]) x (b1 ++ b2) := by
 obtain ⟨A1,n1,c1,s1,A2,n2,c2,s2,e1,rfl,k1,k2⟩ := TRat.agg h1
 obtain ⟨A4,n4,c4,s4,A5,n5,c5,s5,e2,rfl,k4,k5⟩ := TRat.agg h2
 injection e1 with e1
 injection e2 with e2
 simp at e1 e2
 obtain ⟨rfl,rfl,rfl⟩ := e1
 obtain ⟨rfl,rfl,rfl⟩ := e2
 rw [List.append_assoc]
 exact TPoint.mkAgg k1 k2 k4 k5
theorem pt_x {w : World} {x : TPoint} {u0 u1 u2 u3 u4 u5 : Value} {b : List Nat} (h : Agg w (.agg #[u0,u1,u2,u3,u4,u5]) x b) : ∃ b1 b2,b = b1 ++ b2 ∧ Agg w (.agg #[u0,u1,u2]) x.x b1 ∧ Agg w (.agg #[u3,u4,u5]) x.y b2 := by
 obtain ⟨A1,n1,c1,s1,A2,n2,c2,s2,A4,n4,c4,s4,A5,n5,c5,s5,e,rfl,k1,k2,k4,k5⟩ := TPoint.agg h
 injection e with e
 simp at e
 obtain ⟨rfl,rfl,rfl,rfl,rfl,rfl⟩ := e
 exact ⟨s1 ++ s2,s4 ++ s5,by rw [List.append_assoc],TRat.mkAgg k1 k2,TRat.mkAgg k4 k5⟩
end Go.Proofs.YtpfipnankjeokaaGreat.X

/- Points: IsValidPoint,ifPoint,l05Valid; RatSign of the program. -/
namespace Go.Proofs.YtpfipnankjeokaaGreat.X
open Go.RowKit Go.XB Go.XN
attribute [local go_sem] fillBy opAt deps depOf Region.wanted yielded
attribute [local simp] deps depOf MP.eq MP.agg MP.sl Facts
set_option linter.constructorNameAsVariable false

set_option maxHeartbeats 1000000 in
theorem impl_RatSign (v : Value) (r : TRat) (b : List Nat) (w : World) (hx : Agg w v r b) :
  Calls Tryz.prog 12 #[v] w (Gives w (.int .i64 (rsign r))) := by
 have HX := hid hx
 obtain ⟨A1,n1,c1,s1,A2,n2,c2,s2,rfl,rfl,hs1,hs2⟩ := TRat.agg hx
 clear hs1 hs2 hx
 cases hok : ratOkB r
 ·have E := hid (show 0 = rsign r by unfold rsign; rw [hok]; rfl)
  have OK := hid hok
  clear hok
  go_enter Tryz.func12,Tryz.ntmps12
  go_wp2_with fail
  have C := impl_RatOk _ r _ (w.alloc (.cells #[.bool r.num.neg, .slice A1 n1 c1, .slice A2 n2 c2] 32)) (HX.out.below (Below.box _))
  rw [OK.out] at C
  refine C.mono ?_
  clear C
  rintro _ w1 ⟨rfl,hb1⟩
  go_wp2
  go_ret
  exact ⟨ret_int E.out,Below.trans (Below.box _) (hb1.mono (by simp))⟩
 have E := hid (show rsignV r = rsign r by unfold rsign; rw [hok]; rfl)
 have VR := hid (ratOkB_iff.1 hok)
 have OK := hid hok
 clear hok
 go_enter Tryz.func12,Tryz.ntmps12
 go_wp2_with fail
 have C := impl_RatOk _ r _ (w.alloc (.cells #[.bool r.num.neg, .slice A1 n1 c1, .slice A2 n2 c2] 32)) (HX.out.below (Below.box _))
 rw [OK.out] at C
 refine C.mono ?_
 clear C
 rintro _ w1 ⟨rfl,hb1⟩
 obtain ⟨hc_w1,hf_w1⟩ := bcell hb1
 have hz0_w1 : w.heap.size < w1.heap.size := by have := hb1.size; (try simp at this); omega
 go_wp2_with fail
 refine (impl_sign _ r _ w1 ((HX.out.below (Below.box _)).below hb1) VR.out.mag (negOk_of VR.out.num)).mono ?_
 rintro _ w2 ⟨rfl,hb2⟩
 go_wp2
 go_ret
 exact ⟨ret_int E.out,Below.next (Below.trans (Below.box _) (hb1.mono (by simp))) hb2⟩

set_option maxHeartbeats 1000000 in
set_option maxRecDepth 10000 in
theorem impl_ifPoint (v : Value) (x : TPoint) (b : List Nat) (w : World) (hx : Agg w v x b) (h1 : (!x.x.den.isEmpty) = ratOkB x.x) (h2 : (!x.y.den.isEmpty) = ratOkB x.y) :
  Calls Tryz.prog 85 #[v] w (Gives w (bif ptOkB x then v else .agg #[.bool false, .slice none 0 0, .slice none 0 0, .bool false, .slice none 0 0, .slice none 0 0])) := by
 obtain ⟨A1,nA1,cA1,s1,A2,nA2,cA2,s2,A4,nA4,cA4,s4,A5,nA5,cA5,s5,rfl,rfl,hs1,hs2,hs4,hs5⟩ := TPoint.agg hx
 have P1 := hid (TRat.mkAgg (x := x.x) hs1 hs2); have P2 := hid (TRat.mkAgg (x := x.y) hs4 hs5)
 have D1 := hid h1; have D2 := hid h2
 clear hs1 hs2 hs4 hs5 hx h1 h2
 cases ho1 : ratOkB x.x
 ·have E := hid (show ptOkB x = false by unfold ptOkB; rw [ho1]; rfl)
  have O1 := hid ho1
  clear ho1
  go_enter Tryz.func85,Tryz.ntmps85
  go_wp2_with fail
  have C := impl_isRat _ x.x _ ((w.alloc (.cells #[.bool x.x.num.neg, .slice A1 nA1 cA1, .slice A2 nA2 cA2, .bool x.y.num.neg, .slice A4 nA4 cA4, .slice A5 nA5 cA5] 34)).alloc (.cells #[.bool false, .slice none 0 0, .slice none 0 0, .bool false, .slice none 0 0, .slice none 0 0] 34)) (P1.out.below (by (with_reducible repeat first | exact Below.refl _ _ | (refine Below.set ?_ ?_ _; rotate_left; (simp <;> omega)) | refine Below.box_ ?_ _ | refine Below.next ?_ (by assumption))))
  rw [D1.out,O1.out] at C
  refine C.mono ?_
  clear C
  rintro _ w1 ⟨rfl,hb1⟩
  obtain ⟨hc_w1,hf_w1⟩ := bcell hb1
  have hz0_w1 : w.heap.size < w1.heap.size := by have := hb1.size; (try simp at this); omega
  have hz1_w1 : w.heap.size + 1 < w1.heap.size := by have := hb1.size; (try simp at this); omega
  go_wp2
  refine bodyPost_ret (v := .agg #[.bool false, .slice none 0 0, .slice none 0 0, .bool false, .slice none 0 0, .slice none 0 0]) (by simp [results,Tryz.results85,go_sem, *]) rfl ?_
  rw [E.out]
  exact ⟨rfl,by (with_reducible repeat first | exact Below.refl _ _ | (refine Below.set ?_ ?_ _; rotate_left; (simp <;> omega)) | refine Below.box_ ?_ _ | refine Below.next ?_ (by assumption))⟩
 have O1 := hid ho1
 cases ho2 : ratOkB x.y
 ·have E := hid (show ptOkB x = false by unfold ptOkB; rw [ho1,ho2]; rfl)
  have O2 := hid ho2
  clear ho1 ho2
  go_enter Tryz.func85,Tryz.ntmps85
  go_wp2_with fail
  have C := impl_isRat _ x.x _ ((w.alloc (.cells #[.bool x.x.num.neg, .slice A1 nA1 cA1, .slice A2 nA2 cA2, .bool x.y.num.neg, .slice A4 nA4 cA4, .slice A5 nA5 cA5] 34)).alloc (.cells #[.bool false, .slice none 0 0, .slice none 0 0, .bool false, .slice none 0 0, .slice none 0 0] 34)) (P1.out.below (by (with_reducible repeat first | exact Below.refl _ _ | (refine Below.set ?_ ?_ _; rotate_left; (simp <;> omega)) | refine Below.box_ ?_ _ | refine Below.next ?_ (by assumption))))
  rw [D1.out,O1.out] at C
  refine C.mono ?_
  clear C
  rintro _ w1 ⟨rfl,hb1⟩
  obtain ⟨hc_w1,hf_w1⟩ := bcell hb1
  have hz0_w1 : w.heap.size < w1.heap.size := by have := hb1.size; (try simp at this); omega
  have hz1_w1 : w.heap.size + 1 < w1.heap.size := by have := hb1.size; (try simp at this); omega
  go_wp2_with fail
  have C := impl_isRat _ x.y _ w1 (P2.out.below (by (with_reducible repeat first | exact Below.refl _ _ | (refine Below.set ?_ ?_ _; rotate_left; (simp <;> omega)) | refine Below.box_ ?_ _ | refine Below.next ?_ (by assumption))))
  rw [D2.out,O2.out] at C
  refine C.mono ?_
  clear C
  rintro _ w2 ⟨rfl,hb2⟩
  obtain ⟨hc_w2,hf_w2⟩ := bcell hb2
  have hz0_w2 : w.heap.size < w2.heap.size := by have := hb2.size; (try simp at this); omega
  have hz1_w2 : w.heap.size + 1 < w2.heap.size := by have := hb2.size; (try simp at this); omega
  go_wp2
  refine bodyPost_ret (v := .agg #[.bool false, .slice none 0 0, .slice none 0 0, .bool false, .slice none 0 0, .slice none 0 0]) (by simp [results,Tryz.results85,go_sem, *]) rfl ?_
  rw [E.out]
  exact ⟨rfl,by (with_reducible repeat first | exact Below.refl _ _ | (refine Below.set ?_ ?_ _; rotate_left; (simp <;> omega)) | refine Below.box_ ?_ _ | refine Below.next ?_ (by assumption))⟩
 have E := hid (show ptOkB x = true by unfold ptOkB; rw [ho1,ho2]; rfl)
 have O2 := hid ho2
 clear ho1 ho2
 go_enter Tryz.func85,Tryz.ntmps85
 go_wp2_with fail
 have C := impl_isRat _ x.x _ ((w.alloc (.cells #[.bool x.x.num.neg, .slice A1 nA1 cA1, .slice A2 nA2 cA2, .bool x.y.num.neg, .slice A4 nA4 cA4, .slice A5 nA5 cA5] 34)).alloc (.cells #[.bool false, .slice none 0 0, .slice none 0 0, .bool false, .slice none 0 0, .slice none 0 0] 34)) (P1.out.below (by (with_reducible repeat first | exact Below.refl _ _ | (refine Below.set ?_ ?_ _; rotate_left; (simp <;> omega)) | refine Below.box_ ?_ _ | refine Below.next ?_ (by assumption))))
 rw [D1.out,O1.out] at C
 refine C.mono ?_
 clear C
 rintro _ w1 ⟨rfl,hb1⟩
 obtain ⟨hc_w1,hf_w1⟩ := bcell hb1
 have hz0_w1 : w.heap.size < w1.heap.size := by have := hb1.size; (try simp at this); omega
 have hz1_w1 : w.heap.size + 1 < w1.heap.size := by have := hb1.size; (try simp at this); omega
 go_wp2_with fail
 have C := impl_isRat _ x.y _ w1 (P2.out.below (by (with_reducible repeat first | exact Below.refl _ _ | (refine Below.set ?_ ?_ _; rotate_left; (simp <;> omega)) | refine Below.box_ ?_ _ | refine Below.next ?_ (by assumption))))
 rw [D2.out,O2.out] at C
 refine C.mono ?_
 clear C
 rintro _ w2 ⟨rfl,hb2⟩
 obtain ⟨hc_w2,hf_w2⟩ := bcell hb2
 have hz0_w2 : w.heap.size < w2.heap.size := by have := hb2.size; (try simp at this); omega
 have hz1_w2 : w.heap.size + 1 < w2.heap.size := by have := hb2.size; (try simp at this); omega
 go_wp2
 refine bodyPost_ret (v := .agg #[.bool x.x.num.neg, .slice A1 nA1 cA1, .slice A2 nA2 cA2, .bool x.y.num.neg, .slice A4 nA4 cA4, .slice A5 nA5 cA5]) (by simp [results,Tryz.results85,go_sem, *]) rfl ?_
 rw [E.out]
 exact ⟨rfl,by (with_reducible repeat first | exact Below.refl _ _ | (refine Below.set ?_ ?_ _; rotate_left; (simp <;> omega)) | refine Below.box_ ?_ _ | refine Below.next ?_ (by assumption))⟩

set_option maxHeartbeats 1000000 in
set_option maxRecDepth 10000 in
theorem impl_IsValidPoint (v : Value) (x : TPoint) (b : List Nat) (w : World) (hx : Agg w v x b) :
  Calls Tryz.prog 31 #[v] w (Gives w (.bool (ptOkB x))) := by
 obtain ⟨A1,nA1,cA1,s1,A2,nA2,cA2,s2,A4,nA4,cA4,s4,A5,nA5,cA5,s5,rfl,rfl,hs1,hs2,hs4,hs5⟩ := TPoint.agg hx
 have P1 := hid (TRat.mkAgg (x := x.x) hs1 hs2); have P2 := hid (TRat.mkAgg (x := x.y) hs4 hs5)
 clear hs1 hs2 hs4 hs5 hx
 have E := hid (show (ratOkB x.x && ratOkB x.y) = ptOkB x from rfl)
 go_enter Tryz.func31,Tryz.ntmps31
 go_wp2_with fail
 have C := impl_areRats (some ⟨w.heap.size + 1,0,none⟩) 2 2 [x.x,x.y] _ ((w.alloc (.cells #[.bool x.x.num.neg, .slice A1 nA1 cA1, .slice A2 nA2 cA2, .bool x.y.num.neg, .slice A4 nA4 cA4, .slice A5 nA5 cA5] 34)).alloc (.cells #[.bool x.x.num.neg, .slice A1 nA1 cA1, .slice A2 nA2 cA2, .bool x.y.num.neg, .slice A4 nA4 cA4, .slice A5 nA5 cA5] 32)) (sl_two (P1.out.below (by (with_reducible repeat first | exact Below.refl _ _ | (refine Below.set ?_ ?_ _; rotate_left; (simp <;> omega)) | refine Below.box_ ?_ _ | refine Below.next ?_ (by assumption)))) (P2.out.below (by (with_reducible repeat first | exact Below.refl _ _ | (refine Below.set ?_ ?_ _; rotate_left; (simp <;> omega)) | refine Below.box_ ?_ _ | refine Below.next ?_ (by assumption)))) (by simp) (by go_simp) (by go_simp) (by go_simp) (by go_simp) (by go_simp) (by go_simp))
 refine C.mono ?_
 clear C
 rintro _ w1 ⟨rfl,hb1⟩
 obtain ⟨hc_w1,hf_w1⟩ := bcell hb1
 have hz0_w1 : w.heap.size < w1.heap.size := by have := hb1.size; (try simp at this); omega
 have hz1_w1 : w.heap.size + 1 < w1.heap.size := by have := hb1.size; (try simp at this); omega
 go_wp2
 go_ret
 exact ⟨ret_bool E.out,by (with_reducible repeat first | exact Below.refl _ _ | (refine Below.set ?_ ?_ _; rotate_left; (simp <;> omega)) | refine Below.box_ ?_ _ | refine Below.next ?_ (by assumption))⟩

end Go.Proofs.YtpfipnankjeokaaGreat.X

/- Points: sums,differences,multiples,of the program. -/
namespace Go.Proofs.YtpfipnankjeokaaGreat.X
open Go.RowKit Go.XB Go.XN
attribute [local go_sem] fillBy opAt deps depOf Region.wanted yielded
attribute [local simp] deps depOf MP.eq MP.agg MP.sl Facts
set_option linter.constructorNameAsVariable false

set_option maxHeartbeats 2000000 in
set_option maxRecDepth 10000 in
theorem impl_AddPoints (v1 v2 : Value) (p q : TPoint) (b1 b2 : List Nat) (w : World) (hx : Agg w v1 p b1) (hy : Agg w v2 q b2) :
  Calls Tryz.prog 44 #[v1,v2] w (GivesAgg w (padd p q)) := by
 obtain ⟨A1,nA1,cA1,s1,A2,nA2,cA2,s2,A4,nA4,cA4,s4,A5,nA5,cA5,s5,rfl,rfl,hs1,hs2,hs4,hs5⟩ := TPoint.agg hx
 obtain ⟨B1,nB1,cB1,t1,B2,nB2,cB2,t2,B4,nB4,cB4,t4,B5,nB5,cB5,t5,rfl,rfl,ht1,ht2,ht4,ht5⟩ := TPoint.agg hy
 have P1 := hid (TRat.mkAgg (x := p.x) hs1 hs2); have P2 := hid (TRat.mkAgg (x := p.y) hs4 hs5)
 have Q1 := hid (TRat.mkAgg (x := q.x) ht1 ht2); have Q2 := hid (TRat.mkAgg (x := q.y) ht4 ht5)
 clear hs1 hs2 hs4 hs5 ht1 ht2 ht4 ht5 hx hy
 have E := hid (show padd p q = ifP (⟨radd p.x q.x,radd p.y q.y⟩ : TPoint) from rfl)
 go_enter Tryz.func44,Tryz.ntmps44
 go_wp2_with fail
 refine wp_region_line 10 (by kernel_rfl) (by kernel_rfl) (by kernel_rfl) (by kernel_rfl) (by kernel_rfl) ?_
 simp only [List.take_succ_cons,List.take_zero,List.drop_succ_cons,List.drop_zero]
 iterate 4
  apply walkM_eq
  case h =>
   intro yq zq wq hC hd
   obtain ⟨hcq,hfq⟩ := bcell hC
   simp at hd
   refine ⟨by go_simp; done, ?_⟩
   go_simp
   first | (go_ints; exact rfl) | (go_ints; rw [if_pos (by omega)]; try exact rfl) | exact rfl | (rw [if_pos (by omega)]; try exact rfl)
 refine walkM_call (MP.agg (radd p.x q.x)) ?_ ?_
 ·intro yq zq wq hC hd
  obtain ⟨hcq,hfq⟩ := bcell hC
  simp at hd
  refine ⟨by go_simp; done, ?_⟩
  apply Exists.intro
  apply Exists.intro
  constructor
  ·go_simp
   exact ⟨rfl,rfl⟩
  ·exact gives_agg (impl_RatAdd _ _ p.x q.x _ _ wq (P1.out.below (by (with_reducible repeat first | exact Below.refl _ _ | (refine Below.set ?_ ?_ _; rotate_left; (simp <;> omega)) | refine Below.box_ ?_ _ | refine Below.next ?_ (by assumption)))) (Q1.out.below (by (with_reducible repeat first | exact Below.refl _ _ | (refine Below.set ?_ ?_ _; rotate_left; (simp <;> omega)) | refine Below.box_ ?_ _ | refine Below.next ?_ (by assumption)))))
 iterate 4
  apply walkM_eq
  case h =>
   intro yq zq wq hC hd
   obtain ⟨hcq,hfq⟩ := bcell hC
   simp at hd
   refine ⟨by go_simp; done, ?_⟩
   go_simp
   first | (go_ints; exact rfl) | (go_ints; rw [if_pos (by omega)]; try exact rfl) | exact rfl | (rw [if_pos (by omega)]; try exact rfl)
 refine walkM_call (MP.agg (radd p.y q.y)) ?_ ?_
 ·intro yq zq wq hC hd
  obtain ⟨hcq,hfq⟩ := bcell hC
  simp at hd
  refine ⟨by go_simp; done, ?_⟩
  apply Exists.intro
  apply Exists.intro
  constructor
  ·go_simp
   exact ⟨rfl,rfl⟩
  ·exact gives_agg (impl_RatAdd _ _ p.y q.y _ _ wq (P2.out.below (by (with_reducible repeat first | exact Below.refl _ _ | (refine Below.set ?_ ?_ _; rotate_left; (simp <;> omega)) | refine Below.box_ ?_ _ | refine Below.next ?_ (by assumption)))) (Q2.out.below (by (with_reducible repeat first | exact Below.refl _ _ | (refine Below.set ?_ ?_ _; rotate_left; (simp <;> omega)) | refine Below.box_ ?_ _ | refine Below.next ?_ (by assumption)))))
 intro yq zq wa hC hd hdis0
 have hdis := hid hdis0
 clear hdis0
 simp at hd
 have q4 := hd.2.2.2.2.1
 have q9 := hd.2.2.2.2.2.2.2.2.2
 obtain ⟨⟨ha4,hf4⟩,hr4⟩ := q4
 obtain ⟨⟨ha9,hf9⟩,hr9⟩ := q9
 obtain ⟨D1,nD1,cD1,d1,D2,nD2,cD2,d2,e4,z4, _, _⟩ := TRat.agg ha4
 obtain ⟨D4,nD4,cD4,d4,D5,nD5,cD5,d5,e9,z9, _, _⟩ := TRat.agg ha9
 rw [e4] at ha4
 rw [e9] at ha9
 have HA := hid (pt_join (x := (⟨radd p.x q.x,radd p.y q.y⟩ : TPoint)) ha4 ha9)
 have HF := hid (Free.join hf4 hf9 (hdis.out 4 9 (by decide) (by decide) (by decide)))
 have HR := hid (show ∀ b ∈ zq 4 ++ zq 9,w.heap.size + 3 ≤ b from fun b hb => by
  rcases List.mem_append.1 hb with h | h
  ·have := (hr4 b h).1; (try simp at this); omega
  ·have := (hr9 b h).1; (try simp at this); omega)
 clear hd hdis ha4 hf4 hr4 ha9 hf9 hr9 z4 z9
 generalize zq 4 ++ zq 9 = zs at *
 obtain ⟨hc_wa,hf_wa⟩ := bcell hC
 have hz0_wa : w.heap.size < wa.heap.size := by have := hC.size; (try simp at this); omega
 have hz1_wa : w.heap.size + 1 < wa.heap.size := by have := hC.size; (try simp at this); omega
 have hz2_wa : w.heap.size + 1 + 1 < wa.heap.size := by have := hC.size; (try simp at this); omega
 go_wp2_with fail
 have C := impl_ifPoint _ (⟨radd p.x q.x,radd p.y q.y⟩ : TPoint) _ wa HA.out (radd_den _ _) (radd_den _ _)
 cases ho : ptOkB (⟨radd p.x q.x,radd p.y q.y⟩ : TPoint)
 ·have O := hid ho
  rw [ho] at C
  clear ho
  refine C.mono ?_
  clear C
  rintro _ wb ⟨rfl,hb⟩
  obtain ⟨hc_wb,hf_wb⟩ := bcell hb
  have hz0_wb : w.heap.size < wb.heap.size := by have := hb.size; (try simp at this); omega
  have hz1_wb : w.heap.size + 1 < wb.heap.size := by have := hb.size; (try simp at this); omega
  have hz2_wb : w.heap.size + 1 + 1 < wb.heap.size := by have := hb.size; (try simp at this); omega
  go_wp2
  refine bodyPost_ret (v := .agg #[.bool false, .slice none 0 0, .slice none 0 0, .bool false, .slice none 0 0, .slice none 0 0]) (by simp [results,Tryz.results44,go_sem, *]) rfl ?_
  rw [E.out]
  unfold ifP
  rw [O.out]
  exact gives_zeroP (by (with_reducible repeat first | exact Below.refl _ _ | (refine Below.set ?_ ?_ _; rotate_left; (simp <;> omega)) | refine Below.box_ ?_ _ | refine Below.next ?_ (by assumption)))
 ·have O := hid ho
  rw [ho] at C
  clear ho
  refine C.mono ?_
  clear C
  rintro _ wb ⟨rfl,hb⟩
  obtain ⟨hc_wb,hf_wb⟩ := bcell hb
  have hz0_wb : w.heap.size < wb.heap.size := by have := hb.size; (try simp at this); omega
  have hz1_wb : w.heap.size + 1 < wb.heap.size := by have := hb.size; (try simp at this); omega
  have hz2_wb : w.heap.size + 1 + 1 < wb.heap.size := by have := hb.size; (try simp at this); omega
  go_wp2
  refine bodyPost_ret (v := .agg #[.bool (radd p.x q.x).num.neg, .slice D1 nD1 cD1, .slice D2 nD2 cD2, .bool (radd p.y q.y).num.neg, .slice D4 nD4 cD4, .slice D5 nD5 cD5]) (by simp [results,Tryz.results44,go_sem, *]) rfl ?_
  rw [E.out]
  unfold ifP
  rw [O.out]
  refine agg_fin (lo := w.heap.size + 3) HA.out HF.out HR.out (by omega) ?_ ?_
  ·(with_reducible repeat first | exact Above.refl _ _ | (refine Above.set ?_ ?_ _; rotate_left; (simp <;> omega)) | refine Above.box ?_ _ | refine Above.below ?_ (by assumption))
  ·(with_reducible repeat first | exact Below.refl _ _ | (refine Below.set ?_ ?_ _; rotate_left; (simp <;> omega)) | refine Below.box_ ?_ _ | refine Below.next ?_ (by assumption))

set_option maxHeartbeats 2000000 in
set_option maxRecDepth 10000 in
theorem impl_SubtractPoints (v1 v2 : Value) (p q : TPoint) (b1 b2 : List Nat) (w : World) (hx : Agg w v1 p b1) (hy : Agg w v2 q b2) :
  Calls Tryz.prog 34 #[v1,v2] w (GivesAgg w (psub p q)) := by
 obtain ⟨A1,nA1,cA1,s1,A2,nA2,cA2,s2,A4,nA4,cA4,s4,A5,nA5,cA5,s5,rfl,rfl,hs1,hs2,hs4,hs5⟩ := TPoint.agg hx
 obtain ⟨B1,nB1,cB1,t1,B2,nB2,cB2,t2,B4,nB4,cB4,t4,B5,nB5,cB5,t5,rfl,rfl,ht1,ht2,ht4,ht5⟩ := TPoint.agg hy
 have P1 := hid (TRat.mkAgg (x := p.x) hs1 hs2); have P2 := hid (TRat.mkAgg (x := p.y) hs4 hs5)
 have Q1 := hid (TRat.mkAgg (x := q.x) ht1 ht2); have Q2 := hid (TRat.mkAgg (x := q.y) ht4 ht5)
 clear hs1 hs2 hs4 hs5 ht1 ht2 ht4 ht5 hx hy
 have E := hid (show psub p q = ifP (⟨rsub p.x q.x,rsub p.y q.y⟩ : TPoint) from rfl)
 go_enter Tryz.func34,Tryz.ntmps34
 go_wp2_with fail
 refine wp_region_line 10 (by kernel_rfl) (by kernel_rfl) (by kernel_rfl) (by kernel_rfl) (by kernel_rfl) ?_
 simp only [List.take_succ_cons,List.take_zero,List.drop_succ_cons,List.drop_zero]
 iterate 4
  apply walkM_eq
  case h =>
   intro yq zq wq hC hd
   obtain ⟨hcq,hfq⟩ := bcell hC
   simp at hd
   refine ⟨by go_simp; done, ?_⟩
   go_simp
   first | (go_ints; exact rfl) | (go_ints; rw [if_pos (by omega)]; try exact rfl) | exact rfl | (rw [if_pos (by omega)]; try exact rfl)
 refine walkM_call (MP.agg (rsub p.x q.x)) ?_ ?_
 ·intro yq zq wq hC hd
  obtain ⟨hcq,hfq⟩ := bcell hC
  simp at hd
  refine ⟨by go_simp; done, ?_⟩
  apply Exists.intro
  apply Exists.intro
  constructor
  ·go_simp
   exact ⟨rfl,rfl⟩
  ·exact gives_agg (impl_RatSub _ _ p.x q.x _ _ wq (P1.out.below (by (with_reducible repeat first | exact Below.refl _ _ | (refine Below.set ?_ ?_ _; rotate_left; (simp <;> omega)) | refine Below.box_ ?_ _ | refine Below.next ?_ (by assumption)))) (Q1.out.below (by (with_reducible repeat first | exact Below.refl _ _ | (refine Below.set ?_ ?_ _; rotate_left; (simp <;> omega)) | refine Below.box_ ?_ _ | refine Below.next ?_ (by assumption)))))
 iterate 4
  apply walkM_eq
  case h =>
   intro yq zq wq hC hd
   obtain ⟨hcq,hfq⟩ := bcell hC
   simp at hd
   refine ⟨by go_simp; done, ?_⟩
   go_simp
   first | (go_ints; exact rfl) | (go_ints; rw [if_pos (by omega)]; try exact rfl) | exact rfl | (rw [if_pos (by omega)]; try exact rfl)
 refine walkM_call (MP.agg (rsub p.y q.y)) ?_ ?_
 ·intro yq zq wq hC hd
  obtain ⟨hcq,hfq⟩ := bcell hC
  simp at hd
  refine ⟨by go_simp; done, ?_⟩
  apply Exists.intro
  apply Exists.intro
  constructor
  ·go_simp
   exact ⟨rfl,rfl⟩
  ·exact gives_agg (impl_RatSub _ _ p.y q.y _ _ wq (P2.out.below (by (with_reducible repeat first | exact Below.refl _ _ | (refine Below.set ?_ ?_ _; rotate_left; (simp <;> omega)) | refine Below.box_ ?_ _ | refine Below.next ?_ (by assumption)))) (Q2.out.below (by (with_reducible repeat first | exact Below.refl _ _ | (refine Below.set ?_ ?_ _; rotate_left; (simp <;> omega)) | refine Below.box_ ?_ _ | refine Below.next ?_ (by assumption)))))
 intro yq zq wa hC hd hdis0
 have hdis := hid hdis0
 clear hdis0
 simp at hd
 have q4 := hd.2.2.2.2.1
 have q9 := hd.2.2.2.2.2.2.2.2.2
 obtain ⟨⟨ha4,hf4⟩,hr4⟩ := q4
 obtain ⟨⟨ha9,hf9⟩,hr9⟩ := q9
 obtain ⟨D1,nD1,cD1,d1,D2,nD2,cD2,d2,e4,z4, _, _⟩ := TRat.agg ha4
 obtain ⟨D4,nD4,cD4,d4,D5,nD5,cD5,d5,e9,z9, _, _⟩ := TRat.agg ha9
 rw [e4] at ha4
 rw [e9] at ha9
 have HA := hid (pt_join (x := (⟨rsub p.x q.x,rsub p.y q.y⟩ : TPoint)) ha4 ha9)
 have HF := hid (Free.join hf4 hf9 (hdis.out 4 9 (by decide) (by decide) (by decide)))
 have HR := hid (show ∀ b ∈ zq 4 ++ zq 9,w.heap.size + 3 ≤ b from fun b hb => by
  rcases List.mem_append.1 hb with h | h
  ·have := (hr4 b h).1; (try simp at this); omega
  ·have := (hr9 b h).1; (try simp at this); omega)
 clear hd hdis ha4 hf4 hr4 ha9 hf9 hr9 z4 z9
 generalize zq 4 ++ zq 9 = zs at *
 obtain ⟨hc_wa,hf_wa⟩ := bcell hC
 have hz0_wa : w.heap.size < wa.heap.size := by have := hC.size; (try simp at this); omega
 have hz1_wa : w.heap.size + 1 < wa.heap.size := by have := hC.size; (try simp at this); omega
 have hz2_wa : w.heap.size + 1 + 1 < wa.heap.size := by have := hC.size; (try simp at this); omega
 go_wp2_with fail
 have C := impl_ifPoint _ (⟨rsub p.x q.x,rsub p.y q.y⟩ : TPoint) _ wa HA.out (rsub_den _ _) (rsub_den _ _)
 cases ho : ptOkB (⟨rsub p.x q.x,rsub p.y q.y⟩ : TPoint)
 ·have O := hid ho
  rw [ho] at C
  clear ho
  refine C.mono ?_
  clear C
  rintro _ wb ⟨rfl,hb⟩
  obtain ⟨hc_wb,hf_wb⟩ := bcell hb
  have hz0_wb : w.heap.size < wb.heap.size := by have := hb.size; (try simp at this); omega
  have hz1_wb : w.heap.size + 1 < wb.heap.size := by have := hb.size; (try simp at this); omega
  have hz2_wb : w.heap.size + 1 + 1 < wb.heap.size := by have := hb.size; (try simp at this); omega
  go_wp2
  refine bodyPost_ret (v := .agg #[.bool false, .slice none 0 0, .slice none 0 0, .bool false, .slice none 0 0, .slice none 0 0]) (by simp [results,Tryz.results34,go_sem, *]) rfl ?_
  rw [E.out]
  unfold ifP
  rw [O.out]
  exact gives_zeroP (by (with_reducible repeat first | exact Below.refl _ _ | (refine Below.set ?_ ?_ _; rotate_left; (simp <;> omega)) | refine Below.box_ ?_ _ | refine Below.next ?_ (by assumption)))
 ·have O := hid ho
  rw [ho] at C
  clear ho
  refine C.mono ?_
  clear C
  rintro _ wb ⟨rfl,hb⟩
  obtain ⟨hc_wb,hf_wb⟩ := bcell hb
  have hz0_wb : w.heap.size < wb.heap.size := by have := hb.size; (try simp at this); omega
  have hz1_wb : w.heap.size + 1 < wb.heap.size := by have := hb.size; (try simp at this); omega
  have hz2_wb : w.heap.size + 1 + 1 < wb.heap.size := by have := hb.size; (try simp at this); omega
  go_wp2
  refine bodyPost_ret (v := .agg #[.bool (rsub p.x q.x).num.neg, .slice D1 nD1 cD1, .slice D2 nD2 cD2, .bool (rsub p.y q.y).num.neg, .slice D4 nD4 cD4, .slice D5 nD5 cD5]) (by simp [results,Tryz.results34,go_sem, *]) rfl ?_
  rw [E.out]
  unfold ifP
  rw [O.out]
  refine agg_fin (lo := w.heap.size + 3) HA.out HF.out HR.out (by omega) ?_ ?_
  ·(with_reducible repeat first | exact Above.refl _ _ | (refine Above.set ?_ ?_ _; rotate_left; (simp <;> omega)) | refine Above.box ?_ _ | refine Above.below ?_ (by assumption))
  ·(with_reducible repeat first | exact Below.refl _ _ | (refine Below.set ?_ ?_ _; rotate_left; (simp <;> omega)) | refine Below.box_ ?_ _ | refine Below.next ?_ (by assumption))

set_option maxHeartbeats 2000000 in
set_option maxRecDepth 10000 in
theorem impl_ScalePoint (v1 v2 : Value) (r : TRat) (p : TPoint) (b1 b2 : List Nat) (w : World) (hx : Agg w v1 r b1) (hy : Agg w v2 p b2) :
  Calls Tryz.prog 43 #[v1,v2] w (GivesAgg w (pscale r p)) := by
 have R1 := hid hx
 obtain ⟨A1,nA1,cA1,s1,A2,nA2,cA2,s2,rfl,rfl,hs1,hs2⟩ := TRat.agg hx
 obtain ⟨B1,nB1,cB1,t1,B2,nB2,cB2,t2,B4,nB4,cB4,t4,B5,nB5,cB5,t5,rfl,rfl,ht1,ht2,ht4,ht5⟩ := TPoint.agg hy
 have Q1 := hid (TRat.mkAgg (x := p.x) ht1 ht2); have Q2 := hid (TRat.mkAgg (x := p.y) ht4 ht5)
 clear hs1 hs2 ht1 ht2 ht4 ht5 hx hy
 have E := hid (show pscale r p = ifP (⟨rmul r p.x,rmul r p.y⟩ : TPoint) from rfl)
 go_enter Tryz.func43,Tryz.ntmps43
 go_wp2_with fail
 refine wp_region_line 8 (by kernel_rfl) (by kernel_rfl) (by kernel_rfl) (by kernel_rfl) (by kernel_rfl) ?_
 simp only [List.take_succ_cons,List.take_zero,List.drop_succ_cons,List.drop_zero]
 iterate 3
  apply walkM_eq
  case h =>
   intro yq zq wq hC hd
   obtain ⟨hcq,hfq⟩ := bcell hC
   simp at hd
   refine ⟨by go_simp; done, ?_⟩
   go_simp
   first | (go_ints; exact rfl) | (go_ints; rw [if_pos (by omega)]; try exact rfl) | exact rfl | (rw [if_pos (by omega)]; try exact rfl)
 refine walkM_call (MP.agg (rmul r p.x)) ?_ ?_
 ·intro yq zq wq hC hd
  obtain ⟨hcq,hfq⟩ := bcell hC
  simp at hd
  refine ⟨by go_simp; done, ?_⟩
  apply Exists.intro
  apply Exists.intro
  constructor
  ·go_simp
   exact ⟨rfl,rfl⟩
  ·exact gives_agg (impl_RatMul _ _ r p.x _ _ wq (R1.out.below (by (with_reducible repeat first | exact Below.refl _ _ | (refine Below.set ?_ ?_ _; rotate_left; (simp <;> omega)) | refine Below.box_ ?_ _ | refine Below.next ?_ (by assumption)))) (Q1.out.below (by (with_reducible repeat first | exact Below.refl _ _ | (refine Below.set ?_ ?_ _; rotate_left; (simp <;> omega)) | refine Below.box_ ?_ _ | refine Below.next ?_ (by assumption)))))
 iterate 3
  apply walkM_eq
  case h =>
   intro yq zq wq hC hd
   obtain ⟨hcq,hfq⟩ := bcell hC
   simp at hd
   refine ⟨by go_simp; done, ?_⟩
   go_simp
   first | (go_ints; exact rfl) | (go_ints; rw [if_pos (by omega)]; try exact rfl) | exact rfl | (rw [if_pos (by omega)]; try exact rfl)
 refine walkM_call (MP.agg (rmul r p.y)) ?_ ?_
 ·intro yq zq wq hC hd
  obtain ⟨hcq,hfq⟩ := bcell hC
  simp at hd
  refine ⟨by go_simp; done, ?_⟩
  apply Exists.intro
  apply Exists.intro
  constructor
  ·go_simp
   exact ⟨rfl,rfl⟩
  ·exact gives_agg (impl_RatMul _ _ r p.y _ _ wq (R1.out.below (by (with_reducible repeat first | exact Below.refl _ _ | (refine Below.set ?_ ?_ _; rotate_left; (simp <;> omega)) | refine Below.box_ ?_ _ | refine Below.next ?_ (by assumption)))) (Q2.out.below (by (with_reducible repeat first | exact Below.refl _ _ | (refine Below.set ?_ ?_ _; rotate_left; (simp <;> omega)) | refine Below.box_ ?_ _ | refine Below.next ?_ (by assumption)))))
 intro yq zq wa hC hd hdis0
 have hdis := hid hdis0
 clear hdis0
 simp at hd
 have q4 := hd.2.2.2.1
 have q9 := hd.2.2.2.2.2.2.2
 obtain ⟨⟨ha4,hf4⟩,hr4⟩ := q4
 obtain ⟨⟨ha9,hf9⟩,hr9⟩ := q9
 obtain ⟨D1,nD1,cD1,d1,D2,nD2,cD2,d2,e4,z4, _, _⟩ := TRat.agg ha4
 obtain ⟨D4,nD4,cD4,d4,D5,nD5,cD5,d5,e9,z9, _, _⟩ := TRat.agg ha9
 rw [e4] at ha4
 rw [e9] at ha9
 have HA := hid (pt_join (x := (⟨rmul r p.x,rmul r p.y⟩ : TPoint)) ha4 ha9)
 have HF := hid (Free.join hf4 hf9 (hdis.out 3 7 (by decide) (by decide) (by decide)))
 have HR := hid (show ∀ b ∈ zq 3 ++ zq 7,w.heap.size + 3 ≤ b from fun b hb => by
  rcases List.mem_append.1 hb with h | h
  ·have := (hr4 b h).1; (try simp at this); omega
  ·have := (hr9 b h).1; (try simp at this); omega)
 clear hd hdis ha4 hf4 hr4 ha9 hf9 hr9 z4 z9
 generalize zq 3 ++ zq 7 = zs at *
 obtain ⟨hc_wa,hf_wa⟩ := bcell hC
 have hz0_wa : w.heap.size < wa.heap.size := by have := hC.size; (try simp at this); omega
 have hz1_wa : w.heap.size + 1 < wa.heap.size := by have := hC.size; (try simp at this); omega
 have hz2_wa : w.heap.size + 1 + 1 < wa.heap.size := by have := hC.size; (try simp at this); omega
 go_wp2_with fail
 have C := impl_ifPoint _ (⟨rmul r p.x,rmul r p.y⟩ : TPoint) _ wa HA.out (rmul_den _ _) (rmul_den _ _)
 cases ho : ptOkB (⟨rmul r p.x,rmul r p.y⟩ : TPoint)
 ·have O := hid ho
  rw [ho] at C
  clear ho
  refine C.mono ?_
  clear C
  rintro _ wb ⟨rfl,hb⟩
  obtain ⟨hc_wb,hf_wb⟩ := bcell hb
  have hz0_wb : w.heap.size < wb.heap.size := by have := hb.size; (try simp at this); omega
  have hz1_wb : w.heap.size + 1 < wb.heap.size := by have := hb.size; (try simp at this); omega
  have hz2_wb : w.heap.size + 1 + 1 < wb.heap.size := by have := hb.size; (try simp at this); omega
  go_wp2
  refine bodyPost_ret (v := .agg #[.bool false, .slice none 0 0, .slice none 0 0, .bool false, .slice none 0 0, .slice none 0 0]) (by simp [results,Tryz.results43,go_sem, *]) rfl ?_
  rw [E.out]
  unfold ifP
  rw [O.out]
  exact gives_zeroP (by (with_reducible repeat first | exact Below.refl _ _ | (refine Below.set ?_ ?_ _; rotate_left; (simp <;> omega)) | refine Below.box_ ?_ _ | refine Below.next ?_ (by assumption)))
 ·have O := hid ho
  rw [ho] at C
  clear ho
  refine C.mono ?_
  clear C
  rintro _ wb ⟨rfl,hb⟩
  obtain ⟨hc_wb,hf_wb⟩ := bcell hb
  have hz0_wb : w.heap.size < wb.heap.size := by have := hb.size; (try simp at this); omega
  have hz1_wb : w.heap.size + 1 < wb.heap.size := by have := hb.size; (try simp at this); omega
  have hz2_wb : w.heap.size + 1 + 1 < wb.heap.size := by have := hb.size; (try simp at this); omega
  go_wp2
  refine bodyPost_ret (v := .agg #[.bool (rmul r p.x).num.neg, .slice D1 nD1 cD1, .slice D2 nD2 cD2, .bool (rmul r p.y).num.neg, .slice D4 nD4 cD4, .slice D5 nD5 cD5]) (by simp [results,Tryz.results43,go_sem, *]) rfl ?_
  rw [E.out]
  unfold ifP
  rw [O.out]
  refine agg_fin (lo := w.heap.size + 3) HA.out HF.out HR.out (by omega) ?_ ?_
  ·(with_reducible repeat first | exact Above.refl _ _ | (refine Above.set ?_ ?_ _; rotate_left; (simp <;> omega)) | refine Above.box ?_ _ | refine Above.below ?_ (by assumption))
  ·(with_reducible repeat first | exact Below.refl _ _ | (refine Below.set ?_ ?_ _; rotate_left; (simp <;> omega)) | refine Below.box_ ?_ _ | refine Below.next ?_ (by assumption))

end Go.Proofs.YtpfipnankjeokaaGreat.X

/- Points: cross products,areas,middles,of the program. -/
namespace Go.Proofs.YtpfipnankjeokaaGreat.X
open Go.RowKit Go.XB Go.XN
attribute [local go_sem] fillBy opAt deps depOf Region.wanted yielded
attribute [local simp] deps depOf MP.eq MP.agg MP.sl Facts
set_option linter.constructorNameAsVariable false

theorem impl_half (w : World) : Calls Tryz.prog 22 #[.int .i64 1, .int .i64 2] w (GivesAgg w (mkR 1 2)) :=
 impl_RatOf 1 2 w (by constructor <;> decide) (by constructor <;> decide) (by decide)

set_option maxHeartbeats 2000000 in
set_option maxRecDepth 10000 in
theorem impl_Cross (v1 v2 : Value) (p q : TPoint) (b1 b2 : List Nat) (w : World) (hx : Agg w v1 p b1) (hy : Agg w v2 q b2) :
  Calls Tryz.prog 33 #[v1,v2] w (GivesAgg w (cross p q)) := by
 have HX := hid hx; have HY := hid hy
 obtain ⟨A1,nA1,cA1,s1,A2,nA2,cA2,s2,A4,nA4,cA4,s4,A5,nA5,cA5,s5,rfl,rfl,hs1,hs2,hs4,hs5⟩ := TPoint.agg hx
 obtain ⟨B1,nB1,cB1,t1,B2,nB2,cB2,t2,B4,nB4,cB4,t4,B5,nB5,cB5,t5,rfl,rfl,ht1,ht2,ht4,ht5⟩ := TPoint.agg hy
 have P1 := hid (TRat.mkAgg (x := p.x) hs1 hs2); have P2 := hid (TRat.mkAgg (x := p.y) hs4 hs5)
 have Q1 := hid (TRat.mkAgg (x := q.x) ht1 ht2); have Q2 := hid (TRat.mkAgg (x := q.y) ht4 ht5)
 clear hs1 hs2 hs4 hs5 ht1 ht2 ht4 ht5 hx hy HX HY
 go_enter Tryz.func33,Tryz.ntmps33
 go_wp2_with fail
 refine wp_region_line 10 (by kernel_rfl) (by kernel_rfl) (by kernel_rfl) (by kernel_rfl) (by kernel_rfl) ?_
 simp only [List.take_succ_cons,List.take_zero,List.drop_succ_cons,List.drop_zero]
 iterate 4
  apply walkM_eq
  case h =>
   intro yq zq wq hC hd
   obtain ⟨hcq,hfq⟩ := bcell hC
   simp at hd
   refine ⟨by go_simp; done, ?_⟩
   go_simp
   first | (go_ints; exact rfl) | (go_ints; rw [if_pos (by omega)]; try exact rfl) | exact rfl | (rw [if_pos (by omega)]; try exact rfl)
 refine walkM_call (MP.agg (rmul p.x q.y)) ?_ ?_
 ·intro yq zq wq hC hd
  obtain ⟨hcq,hfq⟩ := bcell hC
  simp at hd
  refine ⟨by go_simp; done, ?_⟩
  apply Exists.intro
  apply Exists.intro
  constructor
  ·go_simp
   exact ⟨rfl,rfl⟩
  ·exact gives_agg (impl_RatMul _ _ p.x q.y _ _ wq (P1.out.below (by (with_reducible repeat first | exact Below.refl _ _ | (refine Below.set ?_ ?_ _; rotate_left; (simp <;> omega)) | refine Below.box_ ?_ _ | refine Below.next ?_ (by assumption)))) (Q2.out.below (by (with_reducible repeat first | exact Below.refl _ _ | (refine Below.set ?_ ?_ _; rotate_left; (simp <;> omega)) | refine Below.box_ ?_ _ | refine Below.next ?_ (by assumption)))))
 iterate 4
  apply walkM_eq
  case h =>
   intro yq zq wq hC hd
   obtain ⟨hcq,hfq⟩ := bcell hC
   simp at hd
   refine ⟨by go_simp; done, ?_⟩
   go_simp
   first | (go_ints; exact rfl) | (go_ints; rw [if_pos (by omega)]; try exact rfl) | exact rfl | (rw [if_pos (by omega)]; try exact rfl)
 refine walkM_call (MP.agg (rmul p.y q.x)) ?_ ?_
 ·intro yq zq wq hC hd
  obtain ⟨hcq,hfq⟩ := bcell hC
  simp at hd
  refine ⟨by go_simp; done, ?_⟩
  apply Exists.intro
  apply Exists.intro
  constructor
  ·go_simp
   exact ⟨rfl,rfl⟩
  ·exact gives_agg (impl_RatMul _ _ p.y q.x _ _ wq (P2.out.below (by (with_reducible repeat first | exact Below.refl _ _ | (refine Below.set ?_ ?_ _; rotate_left; (simp <;> omega)) | refine Below.box_ ?_ _ | refine Below.next ?_ (by assumption)))) (Q1.out.below (by (with_reducible repeat first | exact Below.refl _ _ | (refine Below.set ?_ ?_ _; rotate_left; (simp <;> omega)) | refine Below.box_ ?_ _ | refine Below.next ?_ (by assumption)))))
 intro yq zq wa hC hd hdis0
 have hdis := hid hdis0
 clear hdis0
 simp at hd
 have q4 := hd.2.2.2.2.1
 have q9 := hd.2.2.2.2.2.2.2.2.2
 have H4 := hid q4.1.1; have H9 := hid q9.1.1
 clear hd hdis q4 q9
 obtain ⟨hc_wa,hf_wa⟩ := bcell hC
 have hz0_wa : w.heap.size < wa.heap.size := by have := hC.size; (try simp at this); omega
 have hz1_wa : w.heap.size + 1 < wa.heap.size := by have := hC.size; (try simp at this); omega
 have hz2_wa : w.heap.size + 1 + 1 < wa.heap.size := by have := hC.size; (try simp at this); omega
 go_wp2_with fail
 refine (impl_RatSub _ _ (rmul p.x q.y) (rmul p.y q.x) _ _ wa H4.out H9.out).mono ?_
 rintro _ wb ⟨vb,sb,rfl,hab,hob,hb⟩
 obtain ⟨D1,nD1,cD1,d1,D2,nD2,cD2,d2,rfl,hzb, _, _⟩ := TRat.agg hab
 have HA := hid hab; have HO := hid hob
 clear hab hob hzb
 obtain ⟨hc_wb,hf_wb⟩ := bcell hb
 have hz0_wb : w.heap.size < wb.heap.size := by have := hb.size; (try simp at this); omega
 have hz1_wb : w.heap.size + 1 < wb.heap.size := by have := hb.size; (try simp at this); omega
 have hz2_wb : w.heap.size + 1 + 1 < wb.heap.size := by have := hb.size; (try simp at this); omega
 go_wp2
 refine bodyPost_ret (v := .agg #[.bool (rsub (rmul p.x q.y) (rmul p.y q.x)).num.neg, .slice D1 nD1 cD1, .slice D2 nD2 cD2]) (by simp [results,Tryz.results33,go_sem, *]) rfl ?_
 refine agg_fin (lo := w.heap.size + 3) HA.out HO.out.free (fun b hb => by have := (HO.out.2 b hb).1; (try simp at this); omega) (by omega) ?_ ?_
 ·(with_reducible repeat first | exact Above.refl _ _ | (refine Above.set ?_ ?_ _; rotate_left; (simp <;> omega)) | refine Above.box ?_ _ | refine Above.below ?_ (by assumption))
 ·(with_reducible repeat first | exact Below.refl _ _ | (refine Below.set ?_ ?_ _; rotate_left; (simp <;> omega)) | refine Below.box_ ?_ _ | refine Below.next ?_ (by assumption))

set_option maxHeartbeats 2000000 in
set_option maxRecDepth 10000 in
theorem impl_DoubleArea (v0 v1 v2 : Value) (o p q : TPoint) (b0 b1 b2 : List Nat) (w : World) (h0 : Agg w v0 o b0) (hx : Agg w v1 p b1) (hy : Agg w v2 q b2) :
  Calls Tryz.prog 90 #[v0,v1,v2] w (GivesAgg w (darea o p q)) := by
 have HO := hid h0
 obtain ⟨C1,nC1,cC1,r1,C2,nC2,cC2,r2,C4,nC4,cC4,r4,C5,nC5,cC5,r5,rfl,rfl,hr1,hr2,hr4,hr5⟩ := TPoint.agg h0
 have HX := hid hx; have HY := hid hy
 obtain ⟨A1,nA1,cA1,s1,A2,nA2,cA2,s2,A4,nA4,cA4,s4,A5,nA5,cA5,s5,rfl,rfl,hs1,hs2,hs4,hs5⟩ := TPoint.agg hx
 obtain ⟨B1,nB1,cB1,t1,B2,nB2,cB2,t2,B4,nB4,cB4,t4,B5,nB5,cB5,t5,rfl,rfl,ht1,ht2,ht4,ht5⟩ := TPoint.agg hy
 clear hr1 hr2 hr4 hr5 hs1 hs2 hs4 hs5 ht1 ht2 ht4 ht5 h0 hx hy
 go_enter Tryz.func90,Tryz.ntmps90
 go_wp2_with fail
 refine wp_region_line 6 (by kernel_rfl) (by kernel_rfl) (by kernel_rfl) (by kernel_rfl) (by kernel_rfl) ?_
 simp only [List.take_succ_cons,List.take_zero,List.drop_succ_cons,List.drop_zero]
 iterate 2
  apply walkM_eq
  case h =>
   intro yq zq wq hC hd
   obtain ⟨hcq,hfq⟩ := bcell hC
   simp at hd
   refine ⟨by go_simp; done, ?_⟩
   go_simp
   first | (go_ints; exact rfl) | (go_ints; rw [if_pos (by omega)]; try exact rfl) | exact rfl | (rw [if_pos (by omega)]; try exact rfl)
 refine walkM_call (MP.agg (psub p o)) ?_ ?_
 ·intro yq zq wq hC hd
  obtain ⟨hcq,hfq⟩ := bcell hC
  simp at hd
  refine ⟨by go_simp; done, ?_⟩
  apply Exists.intro
  apply Exists.intro
  constructor
  ·go_simp
   exact ⟨rfl,rfl⟩
  ·exact gives_agg (impl_SubtractPoints _ _ p o _ _ wq (HX.out.below (by (with_reducible repeat first | exact Below.refl _ _ | (refine Below.set ?_ ?_ _; rotate_left; (simp <;> omega)) | refine Below.box_ ?_ _ | refine Below.next ?_ (by assumption)))) (HO.out.below (by (with_reducible repeat first | exact Below.refl _ _ | (refine Below.set ?_ ?_ _; rotate_left; (simp <;> omega)) | refine Below.box_ ?_ _ | refine Below.next ?_ (by assumption)))))
 iterate 2
  apply walkM_eq
  case h =>
   intro yq zq wq hC hd
   obtain ⟨hcq,hfq⟩ := bcell hC
   simp at hd
   refine ⟨by go_simp; done, ?_⟩
   go_simp
   first | (go_ints; exact rfl) | (go_ints; rw [if_pos (by omega)]; try exact rfl) | exact rfl | (rw [if_pos (by omega)]; try exact rfl)
 refine walkM_call (MP.agg (psub q o)) ?_ ?_
 ·intro yq zq wq hC hd
  obtain ⟨hcq,hfq⟩ := bcell hC
  simp at hd
  refine ⟨by go_simp; done, ?_⟩
  apply Exists.intro
  apply Exists.intro
  constructor
  ·go_simp
   exact ⟨rfl,rfl⟩
  ·exact gives_agg (impl_SubtractPoints _ _ q o _ _ wq (HY.out.below (by (with_reducible repeat first | exact Below.refl _ _ | (refine Below.set ?_ ?_ _; rotate_left; (simp <;> omega)) | refine Below.box_ ?_ _ | refine Below.next ?_ (by assumption)))) (HO.out.below (by (with_reducible repeat first | exact Below.refl _ _ | (refine Below.set ?_ ?_ _; rotate_left; (simp <;> omega)) | refine Below.box_ ?_ _ | refine Below.next ?_ (by assumption)))))
 intro yq zq wa hC hd hdis0
 have hdis := hid hdis0
 clear hdis0
 simp at hd
 have q4 := hd.2.2.1
 have q9 := hd.2.2.2.2.2
 have H4 := hid q4.1.1; have H9 := hid q9.1.1
 clear hd hdis q4 q9
 obtain ⟨hc_wa,hf_wa⟩ := bcell hC
 have hz0_wa : w.heap.size < wa.heap.size := by have := hC.size; (try simp at this); omega
 have hz1_wa : w.heap.size + 1 < wa.heap.size := by have := hC.size; (try simp at this); omega
 have hz2_wa : w.heap.size + 1 + 1 < wa.heap.size := by have := hC.size; (try simp at this); omega
 have hz3_wa : w.heap.size + 1 + 1 + 1 < wa.heap.size := by have := hC.size; (try simp at this); omega
 go_wp2_with fail
 refine (impl_Cross _ _ (psub p o) (psub q o) _ _ wa H4.out H9.out).mono ?_
 rintro _ wb ⟨vb,sb,rfl,hab,hob,hb⟩
 obtain ⟨D1,nD1,cD1,d1,D2,nD2,cD2,d2,rfl,hzb, _, _⟩ := TRat.agg hab
 have HA := hid hab; have HOb := hid hob
 clear hab hob hzb
 obtain ⟨hc_wb,hf_wb⟩ := bcell hb
 have hz0_wb : w.heap.size < wb.heap.size := by have := hb.size; (try simp at this); omega
 have hz1_wb : w.heap.size + 1 < wb.heap.size := by have := hb.size; (try simp at this); omega
 have hz2_wb : w.heap.size + 1 + 1 < wb.heap.size := by have := hb.size; (try simp at this); omega
 have hz3_wb : w.heap.size + 1 + 1 + 1 < wb.heap.size := by have := hb.size; (try simp at this); omega
 go_wp2
 refine bodyPost_ret (v := .agg #[.bool (cross (psub p o) (psub q o)).num.neg, .slice D1 nD1 cD1, .slice D2 nD2 cD2]) (by simp [results,Tryz.results90,go_sem, *]) rfl ?_
 refine agg_fin (lo := w.heap.size + 4) HA.out HOb.out.free (fun b hb => by have := (HOb.out.2 b hb).1; (try simp at this); omega) (by omega) ?_ ?_
 ·(with_reducible repeat first | exact Above.refl _ _ | (refine Above.set ?_ ?_ _; rotate_left; (simp <;> omega)) | refine Above.box ?_ _ | refine Above.below ?_ (by assumption))
 ·(with_reducible repeat first | exact Below.refl _ _ | (refine Below.set ?_ ?_ _; rotate_left; (simp <;> omega)) | refine Below.box_ ?_ _ | refine Below.next ?_ (by assumption))

set_option maxHeartbeats 2000000 in
set_option maxRecDepth 10000 in
theorem impl_Middle (v1 v2 : Value) (p q : TPoint) (b1 b2 : List Nat) (w : World) (hx : Agg w v1 p b1) (hy : Agg w v2 q b2) :
  Calls Tryz.prog 107 #[v1,v2] w (GivesAgg w (pmid p q)) := by
 have HX := hid hx; have HY := hid hy
 obtain ⟨A1,nA1,cA1,s1,A2,nA2,cA2,s2,A4,nA4,cA4,s4,A5,nA5,cA5,s5,rfl,rfl,hs1,hs2,hs4,hs5⟩ := TPoint.agg hx
 obtain ⟨B1,nB1,cB1,t1,B2,nB2,cB2,t2,B4,nB4,cB4,t4,B5,nB5,cB5,t5,rfl,rfl,ht1,ht2,ht4,ht5⟩ := TPoint.agg hy
 clear hs1 hs2 hs4 hs5 ht1 ht2 ht4 ht5 hx hy
 go_enter Tryz.func107,Tryz.ntmps107
 go_wp2_with fail
 refine wp_region_line 4 (by kernel_rfl) (by kernel_rfl) (by kernel_rfl) (by kernel_rfl) (by kernel_rfl) ?_
 simp only [List.take_succ_cons,List.take_zero,List.drop_succ_cons,List.drop_zero]
 refine walkM_call (MP.agg (mkR 1 2)) ?_ ?_
 ·intro yq zq wq hC hd
  obtain ⟨hcq,hfq⟩ := bcell hC
  simp at hd
  refine ⟨by go_simp; done, ?_⟩
  apply Exists.intro
  apply Exists.intro
  constructor
  ·go_simp
   exact ⟨rfl,rfl⟩
  ·exact gives_agg (impl_half wq)
 iterate 2
  apply walkM_eq
  case h =>
   intro yq zq wq hC hd
   obtain ⟨hcq,hfq⟩ := bcell hC
   simp at hd
   refine ⟨by go_simp; done, ?_⟩
   go_simp
   first | (go_ints; exact rfl) | (go_ints; rw [if_pos (by omega)]; try exact rfl) | exact rfl | (rw [if_pos (by omega)]; try exact rfl)
 refine walkM_call (MP.agg (padd p q)) ?_ ?_
 ·intro yq zq wq hC hd
  obtain ⟨hcq,hfq⟩ := bcell hC
  simp at hd
  refine ⟨by go_simp; done, ?_⟩
  apply Exists.intro
  apply Exists.intro
  constructor
  ·go_simp
   exact ⟨rfl,rfl⟩
  ·exact gives_agg (impl_AddPoints _ _ p q _ _ wq (HX.out.below (by (with_reducible repeat first | exact Below.refl _ _ | (refine Below.set ?_ ?_ _; rotate_left; (simp <;> omega)) | refine Below.box_ ?_ _ | refine Below.next ?_ (by assumption)))) (HY.out.below (by (with_reducible repeat first | exact Below.refl _ _ | (refine Below.set ?_ ?_ _; rotate_left; (simp <;> omega)) | refine Below.box_ ?_ _ | refine Below.next ?_ (by assumption)))))
 intro yq zq wa hC hd hdis0
 have hdis := hid hdis0
 clear hdis0
 simp at hd
 have q4 := hd.1
 have q9 := hd.2.2.2
 have H4 := hid q4.1.1; have H9 := hid q9.1.1
 clear hd hdis q4 q9
 obtain ⟨hc_wa,hf_wa⟩ := bcell hC
 have hz0_wa : w.heap.size < wa.heap.size := by have := hC.size; (try simp at this); omega
 have hz1_wa : w.heap.size + 1 < wa.heap.size := by have := hC.size; (try simp at this); omega
 have hz2_wa : w.heap.size + 1 + 1 < wa.heap.size := by have := hC.size; (try simp at this); omega
 go_wp2_with fail
 refine (impl_ScalePoint _ _ (mkR 1 2) (padd p q) _ _ wa H4.out H9.out).mono ?_
 rintro _ wb ⟨vb,sb,rfl,hab,hob,hb⟩
 obtain ⟨D1,nD1,cD1,d1,D2,nD2,cD2,d2,D4,nD4,cD4,d4,D5,nD5,cD5,d5,rfl,hzb, _, _, _, _⟩ := TPoint.agg hab
 have HA := hid hab; have HO := hid hob
 clear hab hob hzb
 obtain ⟨hc_wb,hf_wb⟩ := bcell hb
 have hz0_wb : w.heap.size < wb.heap.size := by have := hb.size; (try simp at this); omega
 have hz1_wb : w.heap.size + 1 < wb.heap.size := by have := hb.size; (try simp at this); omega
 have hz2_wb : w.heap.size + 1 + 1 < wb.heap.size := by have := hb.size; (try simp at this); omega
 go_wp2
 refine bodyPost_ret (v := .agg #[.bool (pscale (mkR 1 2) (padd p q)).x.num.neg, .slice D1 nD1 cD1, .slice D2 nD2 cD2, .bool (pscale (mkR 1 2) (padd p q)).y.num.neg, .slice D4 nD4 cD4, .slice D5 nD5 cD5]) (by simp [results,Tryz.results107,go_sem, *]) rfl ?_
 refine agg_fin (lo := w.heap.size + 3) HA.out HO.out.free (fun b hb => by have := (HO.out.2 b hb).1; (try simp at this); omega) (by omega) ?_ ?_
 ·(with_reducible repeat first | exact Above.refl _ _ | (refine Above.set ?_ ?_ _; rotate_left; (simp <;> omega)) | refine Above.box ?_ _ | refine Above.below ?_ (by assumption))
 ·(with_reducible repeat first | exact Below.refl _ _ | (refine Below.set ?_ ?_ _; rotate_left; (simp <;> omega)) | refine Below.box_ ?_ _ | refine Below.next ?_ (by assumption))
end Go.Proofs.YtpfipnankjeokaaGreat.X
