/- FnExactMarkFraction: for every input, the program's MarkFraction returns what the reference's returns: the law returns true, and its arguments read as before. No condition. -/
import Derived.Test.YthlpjpcnpcclhaaGreatPL
import Derived.Test.YthlpjpcnpcclhaaGreatP2
import Derived.Test.YthlpjpcnpcclhaaGreatXFrac4
import Derived.Test.YthlpjpcnpcclhaaGreatXFrac5
import Derived.Test.YthlpjpcnpcclhaaGreatXMark3
import Derived.WalkLawsBesides
import Derived.ProofKit
import Derived.OpenShut
namespace Go.Proofs.YthlpjpcnpcclhaaGreat.fnExactMarkFraction
open Go.ChangeShapes Go.WideShapes Go.ChangeAt Go.RowKit Go.XB Go.XN Go.Proofs.YthlpjpcnpcclhaaGreat.X
attribute [local go_sem] fillBy opAt deps depOf Region.wanted yielded
attribute [local simp] deps depOf MP.eq MP.agg MP.sl Facts
set_option linter.constructorNameAsVariable false

theorem frac_len {xs : List TRat} {want : TRat} : ∀ {is : List Int} {s : TRat} {l : List Int}, fracGo xs want is s = some l → l.length ≤ is.length
  | [], s, l, h => by simp [fracGo] at h; subst h; exact Nat.le_refl _
  | i :: is, s, l, h => by
    unfold fracGo at h
    split at h
    · injection h with h; subst h; exact Nat.zero_le _
    · split at h
      · obtain ⟨l', h1, rfl⟩ := Option.map_eq_some_iff.1 h
        have := frac_len h1
        simp; exact this
      · cases h
theorem order_len (xs : List TRat) : (orderOf xs).length ≤ xs.length := by
  unfold orderOf
  split
  · rw [List.length_mergeSort, iota_len]; exact Nat.le_refl _
  · exact Nat.zero_le _
theorem mark_len (xs : List TRat) (p : TRat) : (markFrac xs p).length ≤ xs.length := by
  unfold markFrac
  split
  · split
    · exact Nat.zero_le _
    · rename_i h; rw [List.length_mergeSort]; exact Nat.le_trans (frac_len h) (order_len xs)
  · exact Nat.zero_le _

set_option maxHeartbeats 4000000 in
theorem walk (A0 : Option Addr) (n0 c0 : Nat) (v1 : Value) (x0 : List TRat) (x1 : TRat) (b0 b1 : List Nat) (w : World) (h0 : Sl w A0 n0 c0 x0 b0) (h1 : Agg w v1 x1 b1) :
    Calls Tryz.prog 4 #[.slice A0 n0 c0, v1] w (Gives w (.bool true)) := by
  have H0 := hid h0; have H1 := hid h1
  have hm0 : n0 ≤ maxLen := Nat.le_trans h0.2.1 h0.2.2.1
  unfold maxLen at hm0
  obtain ⟨P1, nP1, cP1, sP1, P2, nP2, cP2, sP2, rfl, rfl, hp1, hp2⟩ := TRat.agg h1
  clear hp1 hp2 h0 h1
  have k0a : (0 : Int) ≤ 1048576 := by omega
  have m0 : (1048576 : Int) ≤ 1048576 := by omega
  rcases minus_cases 1048576 (cntL TRat.cnt x0) with ⟨k1, e1, l1⟩ | ⟨k1, e1, l1⟩
  · clear e1 l1
    go_enter Tryz.func4, Tryz.ntmps4
    have BW := hid (Below.refl w.heap.size w)
    go_wp2_with fail
    refine (laws_szRatS _ _ _ x0 _ 1048576 _ (Sl.below H0.out (Below.box _)) k0a m0).mono ?_
    rintro e us0 ⟨rfl, hb⟩
    have B0_0 : us0.cell? ⟨w.heap.size, 0, none⟩ = some (.bool x1.num.neg) := (hb.cell (p := ⟨w.heap.size, 0, none⟩) (by simp)).trans (by go_simp)
    have B0_1 : us0.cell? ⟨w.heap.size, 1, none⟩ = some (.slice P1 nP1 cP1) := (hb.cell (p := ⟨w.heap.size, 1, none⟩) (by simp)).trans (by go_simp)
    have B0_2 : us0.cell? ⟨w.heap.size, 2, none⟩ = some (.slice P2 nP2 cP2) := (hb.cell (p := ⟨w.heap.size, 2, none⟩) (by simp)).trans (by go_simp)
    have L0 : w.heap.size < us0.heap.size := by have := hb.size; (try simp at this); omega
    replace BW := hid (Below.next (Below.box_ BW.out _) hb)
    clear hb
    go_wp2
    go_ret
    exact ⟨rfl, BW.out⟩
  have q0 : (cntL TRat.cnt x0) ≤ 1048576 := by omega
  have k1a : 0 ≤ (minus 1048576 (cntL TRat.cnt x0)) := k1
  have m1 : (minus 1048576 (cntL TRat.cnt x0)) ≤ 1048576 := by omega
  have LX := hid (show x0.length ≤ 1048576 by have h := q0; unfold cntL at h; omega)
  have LO := hid (Nat.le_trans (mark_len x0 x1) LX.out)
  clear e1 l1
  rcases minus_cases (minus 1048576 (cntL TRat.cnt x0)) (x1.cnt) with ⟨k2, e1, l1⟩ | ⟨k2, e1, l1⟩
  · clear e1 l1
    go_enter Tryz.func4, Tryz.ntmps4
    have BW := hid (Below.refl w.heap.size w)
    go_wp2_with fail
    refine (laws_szRatS _ _ _ x0 _ 1048576 _ (Sl.below H0.out (Below.box _)) k0a m0).mono ?_
    rintro e us0 ⟨rfl, hb⟩
    have B0_0 : us0.cell? ⟨w.heap.size, 0, none⟩ = some (.bool x1.num.neg) := (hb.cell (p := ⟨w.heap.size, 0, none⟩) (by simp)).trans (by go_simp)
    have B0_1 : us0.cell? ⟨w.heap.size, 1, none⟩ = some (.slice P1 nP1 cP1) := (hb.cell (p := ⟨w.heap.size, 1, none⟩) (by simp)).trans (by go_simp)
    have B0_2 : us0.cell? ⟨w.heap.size, 2, none⟩ = some (.slice P2 nP2 cP2) := (hb.cell (p := ⟨w.heap.size, 2, none⟩) (by simp)).trans (by go_simp)
    have L0 : w.heap.size < us0.heap.size := by have := hb.size; (try simp at this); omega
    replace BW := hid (Below.next (Below.box_ BW.out _) hb)
    clear hb
    go_wp2_with fail
    refine (laws_szRat _ x1 _ (minus 1048576 (cntL TRat.cnt x0)) _ (Agg.below H1.out BW.out) k1a m1).mono ?_
    rintro e us1 ⟨rfl, hb⟩
    replace B0_0 := (hb.cell (p := ⟨w.heap.size, 0, none⟩) L0).trans (B0_0)
    replace B0_1 := (hb.cell (p := ⟨w.heap.size, 1, none⟩) L0).trans (B0_1)
    replace B0_2 := (hb.cell (p := ⟨w.heap.size, 2, none⟩) L0).trans (B0_2)
    replace L0 : w.heap.size < us1.heap.size := by have := hb.size; (try simp at this); omega
    replace BW := hid (Below.next BW.out hb)
    clear hb
    go_wp2
    go_ret
    exact ⟨rfl, BW.out⟩
  have q1 : (x1.cnt) ≤ 1048576 := by omega
  have k2a : 0 ≤ (minus (minus 1048576 (cntL TRat.cnt x0)) (x1.cnt)) := k2
  clear e1 l1
  go_enter Tryz.func4, Tryz.ntmps4
  have BW := hid (Below.refl w.heap.size w)
  go_wp2_with fail
  refine (laws_szRatS _ _ _ x0 _ 1048576 _ (Sl.below H0.out (Below.box _)) k0a m0).mono ?_
  rintro e us0 ⟨rfl, hb⟩
  have B0_0 : us0.cell? ⟨w.heap.size, 0, none⟩ = some (.bool x1.num.neg) := (hb.cell (p := ⟨w.heap.size, 0, none⟩) (by simp)).trans (by go_simp)
  have B0_1 : us0.cell? ⟨w.heap.size, 1, none⟩ = some (.slice P1 nP1 cP1) := (hb.cell (p := ⟨w.heap.size, 1, none⟩) (by simp)).trans (by go_simp)
  have B0_2 : us0.cell? ⟨w.heap.size, 2, none⟩ = some (.slice P2 nP2 cP2) := (hb.cell (p := ⟨w.heap.size, 2, none⟩) (by simp)).trans (by go_simp)
  have L0 : w.heap.size < us0.heap.size := by have := hb.size; (try simp at this); omega
  replace BW := hid (Below.next (Below.box_ BW.out _) hb)
  clear hb
  go_wp2_with fail
  refine (laws_szRat _ x1 _ (minus 1048576 (cntL TRat.cnt x0)) _ (Agg.below H1.out BW.out) k1a m1).mono ?_
  rintro e us1 ⟨rfl, hb⟩
  replace B0_0 := (hb.cell (p := ⟨w.heap.size, 0, none⟩) L0).trans (B0_0)
  replace B0_1 := (hb.cell (p := ⟨w.heap.size, 1, none⟩) L0).trans (B0_1)
  replace B0_2 := (hb.cell (p := ⟨w.heap.size, 2, none⟩) L0).trans (B0_2)
  replace L0 : w.heap.size < us1.heap.size := by have := hb.size; (try simp at this); omega
  replace BW := hid (Below.next BW.out hb)
  clear hb
  go_wp2_with fail
  refine wp_region_line 5 (by kernel_rfl) (by kernel_rfl) (by kernel_rfl) (by kernel_rfl) (by kernel_rfl) ?_
  simp only [List.take_succ_cons, List.take_zero, List.drop_succ_cons, List.drop_zero]
  apply walkM_eq
  case h =>
    intro yq zq wq hC hd
    obtain ⟨hcq, hfq⟩ := bcell hC
    simp at hd
    refine ⟨by go_simp; done, ?_⟩
    go_simp
    first | (go_ints; exact rfl) | (go_ints; rw [if_pos (by omega)]; try exact rfl) | exact rfl | (rw [if_pos (by omega)]; try exact rfl)
  refine walkM_call (MP.sl x0) ?_ ?_
  · intro yq zq wq hC hd
    obtain ⟨hcq, hfq⟩ := bcell hC
    simp at hd
    refine ⟨by go_simp; done, ?_⟩
    apply Exists.intro
    apply Exists.intro
    constructor
    · go_simp
      exact ⟨rfl, rfl⟩
    · exact gives_sl (laws_toRatS _ _ _ x0 _ _ (Sl.below H0.out (Below.next BW.out hC)) q0)
  apply walkM_eq
  case h =>
    intro yq zq wq hC hd
    obtain ⟨hcq, hfq⟩ := bcell hC
    simp at hd
    refine ⟨by go_simp; done, ?_⟩
    go_simp
    first | (go_ints; exact rfl) | (go_ints; rw [if_pos (by omega)]; try exact rfl) | exact rfl | (rw [if_pos (by omega)]; try exact rfl)
  refine walkM_call (MP.agg x1) ?_ ?_
  · intro yq zq wq hC hd
    obtain ⟨hcq, hfq⟩ := bcell hC
    simp at hd
    refine ⟨by go_simp; done, ?_⟩
    apply Exists.intro
    apply Exists.intro
    constructor
    · go_simp
      exact ⟨rfl, rfl⟩
    · exact gives_agg (laws_toRat _ x1 _ _ (Agg.below H1.out (Below.next BW.out hC)) q1)
  refine walkM_call (MP.sl (markFrac x0 x1)) ?_ ?_
  · intro yq zq wq hC hd
    obtain ⟨hcq, hfq⟩ := bcell hC
    simp at hd
    refine ⟨by go_simp; done, ?_⟩
    apply Exists.intro
    apply Exists.intro
    constructor
    · go_simp
      exact ⟨rfl, rfl⟩
    · obtain ⟨⟨⟨A', n', c', e', hs'⟩, _⟩, ⟨ha', _⟩⟩ := hd
      rw [e']
      exact gives_sl (spec_MarkFraction A' n' c' x0 _ _ x1 _ _ hs' ha' (by rw [← hs'.1]; exact LX.out))
  intro yq zq u2 hC hd hdis0
  have hdis := hid hdis0
  clear hdis0
  simp at hd
  have q4 := hd.2.2.2.2
  have hb := hC
  clear hC
  replace B0_0 := (hb.cell (p := ⟨w.heap.size, 0, none⟩) L0).trans (B0_0)
  replace B0_1 := (hb.cell (p := ⟨w.heap.size, 1, none⟩) L0).trans (B0_1)
  replace B0_2 := (hb.cell (p := ⟨w.heap.size, 2, none⟩) L0).trans (B0_2)
  replace L0 : w.heap.size < u2.heap.size := by have := hb.size; (try simp at this); omega
  replace BW := hid (Below.next BW.out hb)
  obtain ⟨⟨⟨W1, nW, cW, eW, ha⟩, hfw⟩, hrw⟩ := q4
  clear hd hdis
  have HW := hid ha
  have LW := hid ha.lt
  have WS2 := hid BW.out.size
  have L00 := hid L0
  clear ha hfw hrw hb
  go_wp2_with fail
  refine (laws_toRatS _ _ _ x0 _ _ (Sl.below H0.out BW.out) q0).mono ?_
  rintro e u3 ⟨X0, nX0, cX0, tX, rfl, ha, ho, hb⟩
  replace B0_0 := (hb.cell (p := ⟨w.heap.size, 0, none⟩) L0).trans (B0_0)
  replace B0_1 := (hb.cell (p := ⟨w.heap.size, 1, none⟩) L0).trans (B0_1)
  replace B0_2 := (hb.cell (p := ⟨w.heap.size, 2, none⟩) L0).trans (B0_2)
  replace L0 : w.heap.size < u3.heap.size := by have := hb.size; (try simp at this); omega
  replace HW := hid (HW.out.below hb)
  replace BW := hid (Below.next BW.out hb)
  have HX := hid ha; have FX := hid ho.free; have RX := hid ho.range
  have U23 := hid (show u2.heap.size ≤ u3.heap.size from hb.size)
  have WS3 := hid BW.out.size
  clear ha ho hb
  go_wp2_with fail
  refine (laws_toRat _ x1 _ _ (Agg.below H1.out BW.out) q1).mono ?_
  rintro e u4 ⟨rx1, tY, rfl, ha, ho, hb⟩
  replace B0_0 := (hb.cell (p := ⟨w.heap.size, 0, none⟩) L0).trans (B0_0)
  replace B0_1 := (hb.cell (p := ⟨w.heap.size, 1, none⟩) L0).trans (B0_1)
  replace B0_2 := (hb.cell (p := ⟨w.heap.size, 2, none⟩) L0).trans (B0_2)
  replace L0 : w.heap.size < u4.heap.size := by have := hb.size; (try simp at this); omega
  replace HW := hid (HW.out.below hb)
  replace HX := hid (HX.out.below hb)
  replace FX := hid (FX.out.below hb)
  replace BW := hid (Below.next BW.out hb)
  obtain ⟨Y1, nY1, cY1, sY1, Y2, nY2, cY2, sY2, rfl, rfl, hy1, hy2⟩ := TRat.agg ha
  have HY := hid ha; have FY := hid ho.free; have RY := hid ho.range
  have HY1 := hid hy1; have HY2 := hid hy2
  have NY := hid (show nY1 ≤ 1048576 ∧ nY2 ≤ 1048576 by have h1 := hy1.1; have h2 := hy2.1; have h3 := q1; unfold TRat.cnt TBigInt.cnt at h3; omega)
  have U34 := hid (show u3.heap.size ≤ u4.heap.size from hb.size)
  have WS4 := hid BW.out.size
  clear ha ho hb hy1 hy2
  go_wp2_with fail
  refine (impl_MarkFraction _ _ _ x0 _ _ x1 _ _ (HX.out.below (Below.box _)) (HY.out.below (Below.box _)) (by rw [← HX.out.1]; exact LX.out)).mono ?_
  rintro e u5 ⟨G1, nG, cG, tG, rfl, ha, ho, hb⟩
  have B1_0 : u5.cell? ⟨u4.heap.size, 0, none⟩ = some (.bool x1.num.neg) := (hb.cell (p := ⟨u4.heap.size, 0, none⟩) (by simp)).trans (by go_simp)
  have B1_1 : u5.cell? ⟨u4.heap.size, 1, none⟩ = some (.slice Y1 nY1 cY1) := (hb.cell (p := ⟨u4.heap.size, 1, none⟩) (by simp)).trans (by go_simp)
  have B1_2 : u5.cell? ⟨u4.heap.size, 2, none⟩ = some (.slice Y2 nY2 cY2) := (hb.cell (p := ⟨u4.heap.size, 2, none⟩) (by simp)).trans (by go_simp)
  have L1 : u4.heap.size < u5.heap.size := by have := hb.size; (try simp at this); omega
  replace B0_0 := (hb.cell (p := ⟨w.heap.size, 0, none⟩) (show w.heap.size < _ by simp; omega)).trans (((Below.box _).cell (p := ⟨w.heap.size, 0, none⟩) L0).trans B0_0)
  replace B0_1 := (hb.cell (p := ⟨w.heap.size, 1, none⟩) (show w.heap.size < _ by simp; omega)).trans (((Below.box _).cell (p := ⟨w.heap.size, 1, none⟩) L0).trans B0_1)
  replace B0_2 := (hb.cell (p := ⟨w.heap.size, 2, none⟩) (show w.heap.size < _ by simp; omega)).trans (((Below.box _).cell (p := ⟨w.heap.size, 2, none⟩) L0).trans B0_2)
  replace L0 : w.heap.size < u5.heap.size := by have := hb.size; (try simp at this); omega
  replace HW := hid ((HW.out.below (Below.box _)).below hb)
  replace HX := hid ((HX.out.below (Below.box _)).below hb)
  replace FX := hid ((FX.out.below (Below.box _)).below hb)
  replace HY := hid ((HY.out.below (Below.box _)).below hb)
  replace FY := hid ((FY.out.below (Below.box _)).below hb)
  replace HY1 := hid ((HY1.out.below (Below.box _)).below hb)
  replace HY2 := hid ((HY2.out.below (Below.box _)).below hb)
  replace BW := hid (Below.next (Below.box_ BW.out _) hb)
  have HG := hid ha; have FG := hid ho.free
  have RG := hid (show ∀ b ∈ tG, u4.heap.size + 1 ≤ b ∧ b < u5.heap.size from fun b hb => by have := ho.range b hb; simpa using this)
  have LG := hid (show nG ≤ 1048576 by rw [← ha.1]; exact LO.out)
  clear ha ho hb
  go_wp2_with fail
  have C := laws_eqIntS _ _ _ _ _ _ (markFrac x0 x1) (markFrac x0 x1) _ _ _ HG.out HW.out
  rw [show decide (markFrac x0 x1 = markFrac x0 x1) = true by simp] at C
  refine C.mono ?_
  clear C
  rintro e u6 ⟨rfl, hb⟩
  replace B0_0 := (hb.cell (p := ⟨w.heap.size, 0, none⟩) L0).trans (B0_0)
  replace B0_1 := (hb.cell (p := ⟨w.heap.size, 1, none⟩) L0).trans (B0_1)
  replace B0_2 := (hb.cell (p := ⟨w.heap.size, 2, none⟩) L0).trans (B0_2)
  replace L0 : w.heap.size < u6.heap.size := by have := hb.size; (try simp at this); omega
  replace B1_0 := (hb.cell (p := ⟨u4.heap.size, 0, none⟩) L1).trans (B1_0)
  replace B1_1 := (hb.cell (p := ⟨u4.heap.size, 1, none⟩) L1).trans (B1_1)
  replace B1_2 := (hb.cell (p := ⟨u4.heap.size, 2, none⟩) L1).trans (B1_2)
  replace L1 : u4.heap.size < u6.heap.size := by have := hb.size; (try simp at this); omega
  replace HW := hid (HW.out.below hb)
  replace HX := hid (HX.out.below hb)
  replace FX := hid (FX.out.below hb)
  replace HY := hid (HY.out.below hb)
  replace FY := hid (FY.out.below hb)
  replace HY1 := hid (HY1.out.below hb)
  replace HY2 := hid (HY2.out.below hb)
  replace HG := hid (HG.out.below hb)
  replace FG := hid (FG.out.below hb)
  replace BW := hid (Below.next BW.out hb)
  clear hb
  go_wp2_with fail
  refine (laws_toRatS _ _ _ x0 _ _ (Sl.below H0.out BW.out) q0).mono ?_
  rintro e u7 ⟨Z0, nZ0, cZ0, tZ, rfl, ha, ho, hb⟩
  replace B0_0 := (hb.cell (p := ⟨w.heap.size, 0, none⟩) L0).trans (B0_0)
  replace B0_1 := (hb.cell (p := ⟨w.heap.size, 1, none⟩) L0).trans (B0_1)
  replace B0_2 := (hb.cell (p := ⟨w.heap.size, 2, none⟩) L0).trans (B0_2)
  replace L0 : w.heap.size < u7.heap.size := by have := hb.size; (try simp at this); omega
  replace B1_0 := (hb.cell (p := ⟨u4.heap.size, 0, none⟩) L1).trans (B1_0)
  replace B1_1 := (hb.cell (p := ⟨u4.heap.size, 1, none⟩) L1).trans (B1_1)
  replace B1_2 := (hb.cell (p := ⟨u4.heap.size, 2, none⟩) L1).trans (B1_2)
  replace L1 : u4.heap.size < u7.heap.size := by have := hb.size; (try simp at this); omega
  replace HW := hid (HW.out.below hb)
  replace HX := hid (HX.out.below hb)
  replace FX := hid (FX.out.below hb)
  replace HY := hid (HY.out.below hb)
  replace FY := hid (FY.out.below hb)
  replace HY1 := hid (HY1.out.below hb)
  replace HY2 := hid (HY2.out.below hb)
  replace HG := hid (HG.out.below hb)
  replace FG := hid (FG.out.below hb)
  replace BW := hid (Below.next BW.out hb)
  have HZ := hid ha
  clear ha ho hb
  go_wp2_with fail
  have C := laws_eqRatS _ _ _ _ _ _ x0 x0 _ _ _ HX.out HZ.out
  rw [show decide (x0 = x0) = true by simp] at C
  refine C.mono ?_
  clear C
  rintro e u8 ⟨rfl, hb⟩
  replace B0_0 := (hb.cell (p := ⟨w.heap.size, 0, none⟩) L0).trans (B0_0)
  replace B0_1 := (hb.cell (p := ⟨w.heap.size, 1, none⟩) L0).trans (B0_1)
  replace B0_2 := (hb.cell (p := ⟨w.heap.size, 2, none⟩) L0).trans (B0_2)
  replace L0 : w.heap.size < u8.heap.size := by have := hb.size; (try simp at this); omega
  replace B1_0 := (hb.cell (p := ⟨u4.heap.size, 0, none⟩) L1).trans (B1_0)
  replace B1_1 := (hb.cell (p := ⟨u4.heap.size, 1, none⟩) L1).trans (B1_1)
  replace B1_2 := (hb.cell (p := ⟨u4.heap.size, 2, none⟩) L1).trans (B1_2)
  replace L1 : u4.heap.size < u8.heap.size := by have := hb.size; (try simp at this); omega
  replace HW := hid (HW.out.below hb)
  replace HX := hid (HX.out.below hb)
  replace FX := hid (FX.out.below hb)
  replace HY := hid (HY.out.below hb)
  replace FY := hid (FY.out.below hb)
  replace HY1 := hid (HY1.out.below hb)
  replace HY2 := hid (HY2.out.below hb)
  replace HG := hid (HG.out.below hb)
  replace FG := hid (FG.out.below hb)
  replace BW := hid (Below.next BW.out hb)
  clear hb HZ
  go_wp2_with fail
  refine wp_region_walk (by kernel_rfl) (by kernel_rfl) (by kernel_rfl) ?_
  apply walkM_eq
  case h =>
    intro yq zq wq hC hd
    obtain ⟨hcq, hfq⟩ := bcell hC
    simp at hd
    refine ⟨by go_simp; done, ?_⟩
    go_simp
    first | (go_ints; exact rfl) | (go_ints; rw [if_pos (by omega)]; try exact rfl) | exact rfl | (rw [if_pos (by omega)]; try exact rfl)
  apply walkM_eq
  case h =>
    intro yq zq wq hC hd
    obtain ⟨hcq, hfq⟩ := bcell hC
    simp at hd
    refine ⟨by go_simp; done, ?_⟩
    go_simp
    first | (go_ints; exact rfl) | (go_ints; rw [if_pos (by omega)]; try exact rfl) | exact rfl | (rw [if_pos (by omega)]; try exact rfl)
  refine walkM_call (MP.agg x1) ?_ ?_
  · intro yq zq wq hC hd
    obtain ⟨hcq, hfq⟩ := bcell hC
    simp at hd
    refine ⟨by go_simp; done, ?_⟩
    apply Exists.intro
    apply Exists.intro
    constructor
    · go_simp
      exact ⟨rfl, rfl⟩
    · exact gives_agg (laws_toRat _ x1 _ _ (Agg.below H1.out (Below.next BW.out hC)) q1)
  refine walkM_call (MP.eq (.bool true)) ?_ ?_
  · intro yq zq wq hC hd
    obtain ⟨hcq, hfq⟩ := bcell hC
    simp at hd
    refine ⟨by go_simp; done, ?_⟩
    apply Exists.intro
    apply Exists.intro
    constructor
    · go_simp
      exact ⟨rfl, rfl⟩
    · exact gives_eq (by have := laws_eqRat _ _ x1 x1 _ _ _ (Agg.below HY.out hC) hd.2.1; rwa [show decide (x1 = x1) = true by simp] at this)
  apply walkM_eq
  case h =>
    intro yq zq wq hC hd
    obtain ⟨hcq, hfq⟩ := bcell hC
    simp at hd
    refine ⟨by go_simp; done, ?_⟩
    go_simp
    first | (go_ints; exact rfl) | (go_ints; rw [if_pos (by omega)]; try exact rfl) | exact rfl | (rw [if_pos (by omega)]; try exact rfl)
  intro yq zq u9 hC hd hdis0
  have hdis := hid hdis0
  clear hdis0
  simp at hd
  go_simp
  clear hd hdis
  have hb := hC
  clear hC
  replace B0_0 := (hb.cell (p := ⟨w.heap.size, 0, none⟩) L0).trans (B0_0)
  replace B0_1 := (hb.cell (p := ⟨w.heap.size, 1, none⟩) L0).trans (B0_1)
  replace B0_2 := (hb.cell (p := ⟨w.heap.size, 2, none⟩) L0).trans (B0_2)
  replace L0 : w.heap.size < u9.heap.size := by have := hb.size; (try simp at this); omega
  replace B1_0 := (hb.cell (p := ⟨u4.heap.size, 0, none⟩) L1).trans (B1_0)
  replace B1_1 := (hb.cell (p := ⟨u4.heap.size, 1, none⟩) L1).trans (B1_1)
  replace B1_2 := (hb.cell (p := ⟨u4.heap.size, 2, none⟩) L1).trans (B1_2)
  replace L1 : u4.heap.size < u9.heap.size := by have := hb.size; (try simp at this); omega
  replace HW := hid (HW.out.below hb)
  replace HX := hid (HX.out.below hb)
  replace FX := hid (FX.out.below hb)
  replace HY := hid (HY.out.below hb)
  replace FY := hid (FY.out.below hb)
  replace HY1 := hid (HY1.out.below hb)
  replace HY2 := hid (HY2.out.below hb)
  replace HG := hid (HG.out.below hb)
  replace FG := hid (FG.out.below hb)
  replace BW := hid (Below.next BW.out hb)
  clear hb HY
  go_wp2_with fail
  refine (laws_markRatS_le _ _ _ x0 _ 1 _ HX.out FX.out (by omega) (by omega) q0).mono ?_
  rintro e u10 ⟨r, rfl, hr, hr9, ht⟩
  replace B0_0 := (ht.cell L0 (fun h => by have := RX.out _ h; have := WS2.out; have := L00.out; omega) 0).trans B0_0
  replace B0_1 := (ht.cell L0 (fun h => by have := RX.out _ h; have := WS2.out; have := L00.out; omega) 1).trans B0_1
  replace B0_2 := (ht.cell L0 (fun h => by have := RX.out _ h; have := WS2.out; have := L00.out; omega) 2).trans B0_2
  replace B1_0 := (ht.cell L1 (fun h => by have := RX.out _ h; have := U34.out; omega) 0).trans B1_0
  replace B1_1 := (ht.cell L1 (fun h => by have := RX.out _ h; have := U34.out; omega) 1).trans B1_1
  replace B1_2 := (ht.cell L1 (fun h => by have := RX.out _ h; have := U34.out; omega) 2).trans B1_2
  replace L0 : w.heap.size < u10.heap.size := by have := ht.size; omega
  replace L1 : u4.heap.size < u10.heap.size := by have := ht.size; omega
  replace HW := hid (HW.out.touch ht (fun b h h2 => by have := LW.out b h; have := RX.out b h2; omega))
  replace HG := hid (HG.out.touch ht (fun b h h2 => by have := RG.out b h; have := RX.out b h2; have := U34.out; omega))
  replace FG := hid (FG.out.touch ht (fun b h h2 => by have := RG.out b h; have := RX.out b h2; have := U34.out; omega))
  replace HY1 := hid (HY1.out.touch ht (fun b h h2 => by have := RY.out b (List.mem_append_left _ h); have := RX.out b h2; omega))
  replace HY2 := hid (HY2.out.touch ht (fun b h h2 => by have := RY.out b (List.mem_append_right _ h); have := RX.out b h2; omega))
  replace FY := hid (FY.out.touch ht (fun b h h2 => by have := RY.out b h; have := RX.out b h2; omega))
  replace BW := hid (BW.out.touched ht BW.out.size (fun b h => by have := RX.out b h; have := WS2.out; omega))
  clear ht HX FX
  go_wp2_with fail
  refine (laws_markRat _ _ _ _ _ _ _ _ _ _ _ r _ HY1.out HY2.out FY.out hr (by omega) NY.out.1 NY.out.2).mono ?_
  rintro e u11 ⟨rfl, ⟨hg1, hg2⟩, hf, ht⟩
  replace B0_0 := (ht.cell L0 (fun h => by have := RY.out _ h; have := U23.out; have := L00.out; omega) 0).trans B0_0
  replace B0_1 := (ht.cell L0 (fun h => by have := RY.out _ h; have := U23.out; have := L00.out; omega) 1).trans B0_1
  replace B0_2 := (ht.cell L0 (fun h => by have := RY.out _ h; have := U23.out; have := L00.out; omega) 2).trans B0_2
  replace B1_0 := (ht.cell L1 (fun h => by have := RY.out _ h; omega) 0).trans B1_0
  replace B1_1 := (ht.cell L1 (fun h => by have := RY.out _ h; omega) 1).trans B1_1
  replace B1_2 := (ht.cell L1 (fun h => by have := RY.out _ h; omega) 2).trans B1_2
  replace L0 : w.heap.size < u11.heap.size := by have := ht.size; omega
  replace L1 : u4.heap.size < u11.heap.size := by have := ht.size; omega
  replace HW := hid (HW.out.touch ht (fun b h h2 => by have := LW.out b h; have := RY.out b h2; have := U23.out; omega))
  replace HG := hid (HG.out.touch ht (fun b h h2 => by have := RG.out b h; have := RY.out b h2; omega))
  replace FG := hid (FG.out.touch ht (fun b h h2 => by have := RG.out b h; have := RY.out b h2; omega))
  replace BW := hid (BW.out.touched ht BW.out.size (fun b h => by have := RY.out b h; have := WS3.out; omega))
  clear ht HY1 HY2 FY hg1 hg2 hf
  have hrn : ¬ (r + (nY1 : Int) + nY2 < 0) := by omega
  go_wp2_with fail
  have C := laws_eqIntS _ _ _ _ _ _ (markFrac x0 x1) (markFrac x0 x1) _ _ _ HG.out HW.out
  rw [show decide (markFrac x0 x1 = markFrac x0 x1) = true by simp] at C
  refine C.mono ?_
  clear C
  rintro e u12 ⟨rfl, hb⟩
  replace B0_0 := (hb.cell (p := ⟨w.heap.size, 0, none⟩) L0).trans (B0_0)
  replace B0_1 := (hb.cell (p := ⟨w.heap.size, 1, none⟩) L0).trans (B0_1)
  replace B0_2 := (hb.cell (p := ⟨w.heap.size, 2, none⟩) L0).trans (B0_2)
  replace L0 : w.heap.size < u12.heap.size := by have := hb.size; (try simp at this); omega
  replace B1_0 := (hb.cell (p := ⟨u4.heap.size, 0, none⟩) L1).trans (B1_0)
  replace B1_1 := (hb.cell (p := ⟨u4.heap.size, 1, none⟩) L1).trans (B1_1)
  replace B1_2 := (hb.cell (p := ⟨u4.heap.size, 2, none⟩) L1).trans (B1_2)
  replace L1 : u4.heap.size < u12.heap.size := by have := hb.size; (try simp at this); omega
  replace HW := hid (HW.out.below hb)
  replace HG := hid (HG.out.below hb)
  replace FG := hid (FG.out.below hb)
  replace BW := hid (Below.next BW.out hb)
  clear hb
  go_wp2_with fail
  refine (laws_markIntS _ _ _ (markFrac x0 x1) _ 1 _ HG.out FG.out (by omega) (by omega) LG.out).mono ?_
  rintro e u13 ⟨rfl, hg1, hf, ht⟩
  replace B0_0 := (ht.cell L0 (fun h => by have := RG.out _ h; have := WS4.out; omega) 0).trans B0_0
  replace B0_1 := (ht.cell L0 (fun h => by have := RG.out _ h; have := WS4.out; omega) 1).trans B0_1
  replace B0_2 := (ht.cell L0 (fun h => by have := RG.out _ h; have := WS4.out; omega) 2).trans B0_2
  replace B1_0 := (ht.cell L1 (fun h => by have := RG.out _ h; omega) 0).trans B1_0
  replace B1_1 := (ht.cell L1 (fun h => by have := RG.out _ h; omega) 1).trans B1_1
  replace B1_2 := (ht.cell L1 (fun h => by have := RG.out _ h; omega) 2).trans B1_2
  replace L0 : w.heap.size < u13.heap.size := by have := ht.size; omega
  replace L1 : u4.heap.size < u13.heap.size := by have := ht.size; omega
  replace HW := hid (HW.out.touch ht (fun b h h2 => by have := LW.out b h; have := RG.out b h2; have := U23.out; have := U34.out; omega))
  replace BW := hid (BW.out.touched ht BW.out.size (fun b h => by have := RG.out b h; have := WS4.out; omega))
  clear HG FG
  have KG := hid hg1
  have hmn : ¬ ((1 : Int) + nG < 0) := by omega
  clear ht hg1 hf
  go_wp2_with fail
  refine (laws_heldIntS _ _ _ _ 1 _ KG.out (by omega) (by omega) LG.out).mono ?_
  rintro e u14 ⟨rfl, hb⟩
  replace B0_0 := (hb.cell (p := ⟨w.heap.size, 0, none⟩) L0).trans (B0_0)
  replace B0_1 := (hb.cell (p := ⟨w.heap.size, 1, none⟩) L0).trans (B0_1)
  replace B0_2 := (hb.cell (p := ⟨w.heap.size, 2, none⟩) L0).trans (B0_2)
  replace L0 : w.heap.size < u14.heap.size := by have := hb.size; (try simp at this); omega
  replace B1_0 := (hb.cell (p := ⟨u4.heap.size, 0, none⟩) L1).trans (B1_0)
  replace B1_1 := (hb.cell (p := ⟨u4.heap.size, 1, none⟩) L1).trans (B1_1)
  replace B1_2 := (hb.cell (p := ⟨u4.heap.size, 2, none⟩) L1).trans (B1_2)
  replace L1 : u4.heap.size < u14.heap.size := by have := hb.size; (try simp at this); omega
  replace HW := hid (HW.out.below hb)
  replace KG := hid (KG.out.below hb)
  replace BW := hid (Below.next BW.out hb)
  clear hb
  go_wp2_with fail
  refine wp_region_line 5 (by kernel_rfl) (by kernel_rfl) (by kernel_rfl) (by kernel_rfl) (by kernel_rfl) ?_
  simp only [List.take_succ_cons, List.take_zero, List.drop_succ_cons, List.drop_zero]
  apply walkM_eq
  case h =>
    intro yq zq wq hC hd
    obtain ⟨hcq, hfq⟩ := bcell hC
    simp at hd
    refine ⟨by go_simp; done, ?_⟩
    go_simp
    first | (go_ints; exact rfl) | (go_ints; rw [if_pos (by omega)]; try exact rfl) | exact rfl | (rw [if_pos (by omega)]; try exact rfl)
  refine walkM_call (MP.sl x0) ?_ ?_
  · intro yq zq wq hC hd
    obtain ⟨hcq, hfq⟩ := bcell hC
    simp at hd
    refine ⟨by go_simp; done, ?_⟩
    apply Exists.intro
    apply Exists.intro
    constructor
    · go_simp
      exact ⟨rfl, rfl⟩
    · exact gives_sl (laws_toRatS _ _ _ x0 _ _ (Sl.below H0.out (Below.next BW.out hC)) q0)
  apply walkM_eq
  case h =>
    intro yq zq wq hC hd
    obtain ⟨hcq, hfq⟩ := bcell hC
    simp at hd
    refine ⟨by go_simp; done, ?_⟩
    go_simp
    first | (go_ints; exact rfl) | (go_ints; rw [if_pos (by omega)]; try exact rfl) | exact rfl | (rw [if_pos (by omega)]; try exact rfl)
  refine walkM_call (MP.agg x1) ?_ ?_
  · intro yq zq wq hC hd
    obtain ⟨hcq, hfq⟩ := bcell hC
    simp at hd
    refine ⟨by go_simp; done, ?_⟩
    apply Exists.intro
    apply Exists.intro
    constructor
    · go_simp
      exact ⟨rfl, rfl⟩
    · exact gives_agg (laws_toRat _ x1 _ _ (Agg.below H1.out (Below.next BW.out hC)) q1)
  refine walkM_call (MP.sl (markFrac x0 x1)) ?_ ?_
  · intro yq zq wq hC hd
    obtain ⟨hcq, hfq⟩ := bcell hC
    simp at hd
    refine ⟨by go_simp; done, ?_⟩
    apply Exists.intro
    apply Exists.intro
    constructor
    · go_simp
      exact ⟨rfl, rfl⟩
    · obtain ⟨⟨⟨A', n', c', e', hs'⟩, _⟩, ⟨ha', _⟩⟩ := hd
      rw [e']
      exact gives_sl (impl_MarkFraction A' n' c' x0 _ _ x1 _ _ hs' ha' (by rw [← hs'.1]; exact LX.out))
  intro yq zq u15 hC hd hdis0
  have hdis := hid hdis0
  clear hdis0
  simp at hd
  have q4 := hd.2.2.2.2
  have hb := hC
  clear hC
  replace B0_0 := (hb.cell (p := ⟨w.heap.size, 0, none⟩) L0).trans (B0_0)
  replace B0_1 := (hb.cell (p := ⟨w.heap.size, 1, none⟩) L0).trans (B0_1)
  replace B0_2 := (hb.cell (p := ⟨w.heap.size, 2, none⟩) L0).trans (B0_2)
  replace L0 : w.heap.size < u15.heap.size := by have := hb.size; (try simp at this); omega
  replace B1_0 := (hb.cell (p := ⟨u4.heap.size, 0, none⟩) L1).trans (B1_0)
  replace B1_1 := (hb.cell (p := ⟨u4.heap.size, 1, none⟩) L1).trans (B1_1)
  replace B1_2 := (hb.cell (p := ⟨u4.heap.size, 2, none⟩) L1).trans (B1_2)
  replace L1 : u4.heap.size < u15.heap.size := by have := hb.size; (try simp at this); omega
  replace HW := hid (HW.out.below hb)
  replace KG := hid (KG.out.below hb)
  replace BW := hid (Below.next BW.out hb)
  obtain ⟨⟨⟨E1, nE, cE, eE, ha⟩, hfe⟩, hre⟩ := q4
  clear hd hdis
  have HE := hid ha
  clear ha hfe hre hb
  go_wp2_with fail
  have C := laws_eqIntS _ _ _ _ _ _ (markFrac x0 x1) (markFrac x0 x1) _ _ _ HE.out HW.out
  rw [show decide (markFrac x0 x1 = markFrac x0 x1) = true by simp] at C
  refine C.mono ?_
  clear C
  rintro e u16 ⟨rfl, hb⟩
  replace B0_0 := (hb.cell (p := ⟨w.heap.size, 0, none⟩) L0).trans (B0_0)
  replace B0_1 := (hb.cell (p := ⟨w.heap.size, 1, none⟩) L0).trans (B0_1)
  replace B0_2 := (hb.cell (p := ⟨w.heap.size, 2, none⟩) L0).trans (B0_2)
  replace L0 : w.heap.size < u16.heap.size := by have := hb.size; (try simp at this); omega
  replace B1_0 := (hb.cell (p := ⟨u4.heap.size, 0, none⟩) L1).trans (B1_0)
  replace B1_1 := (hb.cell (p := ⟨u4.heap.size, 1, none⟩) L1).trans (B1_1)
  replace B1_2 := (hb.cell (p := ⟨u4.heap.size, 2, none⟩) L1).trans (B1_2)
  replace L1 : u4.heap.size < u16.heap.size := by have := hb.size; (try simp at this); omega
  replace HW := hid (HW.out.below hb)
  replace KG := hid (KG.out.below hb)
  replace HE := hid (HE.out.below hb)
  replace BW := hid (Below.next BW.out hb)
  clear hb
  go_wp2_with fail
  refine (laws_heldIntS _ _ _ _ 1 _ KG.out (by omega) (by omega) LG.out).mono ?_
  rintro e u17 ⟨rfl, hb⟩
  replace B0_0 := (hb.cell (p := ⟨w.heap.size, 0, none⟩) L0).trans (B0_0)
  replace B0_1 := (hb.cell (p := ⟨w.heap.size, 1, none⟩) L0).trans (B0_1)
  replace B0_2 := (hb.cell (p := ⟨w.heap.size, 2, none⟩) L0).trans (B0_2)
  replace L0 : w.heap.size < u17.heap.size := by have := hb.size; (try simp at this); omega
  replace B1_0 := (hb.cell (p := ⟨u4.heap.size, 0, none⟩) L1).trans (B1_0)
  replace B1_1 := (hb.cell (p := ⟨u4.heap.size, 1, none⟩) L1).trans (B1_1)
  replace B1_2 := (hb.cell (p := ⟨u4.heap.size, 2, none⟩) L1).trans (B1_2)
  replace L1 : u4.heap.size < u17.heap.size := by have := hb.size; (try simp at this); omega
  replace HW := hid (HW.out.below hb)
  replace KG := hid (KG.out.below hb)
  replace HE := hid (HE.out.below hb)
  replace BW := hid (Below.next BW.out hb)
  clear hb
  go_wp2
  go_ret
  exact ⟨rfl, BW.out⟩

theorem own : ownKnob Tryz.prog.godebug = none := by kernel_rfl
theorem laidOut : laidOutB Tryz.prog = true := by kernel_rfl

set_option maxRecDepth 100000 in
theorem lifted (os : Os) (started : os.Started) (H : Type) (enc : TypeId × Value → H) :
    ReturnsInHanded {} Tryz.checked os 4 .any (Rows.fnExactMarkFractionSpec.pre6 enc Tryz.prog Tryz.f4 Rows.fnExactMarkFractionRow.domain false) (Rows.fnExactMarkFractionSpec.post enc Tryz.prog Tryz.f4 false true false false) := by
  refine returnsInHanded_of_change (C := Tryz.checked) own started (by kernel_rfl) Tryz.func4
    (ChangeSpec.witness6 (enc := enc) (C := Tryz.checked) false ⟨#[], #[.slice none 0 0, .agg #[.bool false, .slice none 0 0, .slice none 0 0]], []⟩ 8 (by kernel_rfl) (by kernel_rfl) (by kernel_rfl) (by kernel_rfl)) ?_
  intro W base args ds gs before hval0 hW hcnd _
  have hval : ∀ (j : Nat) t v, Tryz.f4.params[j]? = some t → args[j]? = some v → Value.okWide Tryz.prog W .any base t v := hval0
  have hW' := hW
  obtain ⟨p, q, hA0, hV, rfl, hfz, hnd⟩ := hW
  have hA : DataW.TrodAll enc Tryz.prog W 0 (fun _ => true) true Tryz.f4.params.toList args.toList ds p := hA0
  rw [Tryz.params4] at hA hval
  obtain ⟨v0, vs0, d0, ds0, p0, q0, hargs, rfl, rfl, h0, r0⟩ := trodAll_cons hA
  obtain ⟨v1, vs1, d1, ds1, p1, q1, rfl, rfl, rfl, h1, r1⟩ := trodAll_cons r0
  obtain ⟨rfl, rfl, rfl⟩ := trodAll_nil r1
  obtain rfl : args = #[v0, v1] := by cases args; simp_all
  obtain ⟨rfl, rfl⟩ := trodVars_none hV
  clear hA0 hval0
  simp only [List.append_nil] at hW'
  obtain ⟨A0, n0, c0, x0, b0, rfl, g0⟩ := Opens.sl oLTRat Tryz.underlying30 (hval 0 30 v0 rfl rfl) h0
  obtain ⟨x1, b1, g1⟩ := Opens.agg oTRat Tryz.underlying35 (hval 1 35 v1 rfl rfl) h1
  refine (walk _ _ _ _ x0 x1 b0 b1 W g0 g1).mono fun e W' ⟨he, hB⟩ => ?_
  subst he
  have l0 : ∀ x ∈ p0, x.block < W.heap.size := fun x hx => hW'.lt x (by simp [hx])
  have l1 : ∀ x ∈ p1, x.block < W.heap.size := fun x hx => hW'.lt x (by simp [hx])
  refine ⟨_, rfl, _, _, _, [], p0 ++ (p1), [], hW', trodAll_cons_mk (shut_bool Tryz.underlying4 _) trodAll_mk0, ?_, rfl, hB.frame _, fun h => by cases h⟩
  have ha := trodAll_cons_mk (Below.trod laidOut (by kernel_rfl) (of_decide_eq_true (by kernel_rfl)) h0 hB l0) (trodAll_cons_mk (Below.trod laidOut (by kernel_rfl) (of_decide_eq_true (by kernel_rfl)) h1 hB l1) trodAll_mk0)
  simp only [List.append_nil] at ha
  exact ha

theorem proved : Rows.FnExactMarkFractionSaid :=
  OpenClaim.holds_of_wide 4 Tryz.f4 rfl rfl rfl rfl rfl rfl rfl ⟨rfl, rfl, rfl, rfl, rfl⟩ rfl rfl rfl rfl rfl (by kernel_rfl) Tryz.func4 (by kernel_rfl)
    (of_decide_eq_true (by kernel_rfl)) (by unfold Func.isWrapper; first | (rw [if_pos (by decide +kernel)]; kernel_rfl) | (rw [if_neg (by decide +kernel)]; exact ⟨rfl, rfl⟩))
    (fun os started H enc _ => lifted os started H enc)
#print axioms proved
end Go.Proofs.YthlpjpcnpcclhaaGreat.fnExactMarkFraction
