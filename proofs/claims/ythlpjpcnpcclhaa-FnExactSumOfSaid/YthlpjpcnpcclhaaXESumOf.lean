/- FnExactSumOf: for every input, the program's SumOf returns what the reference's returns: the law returns true, and its argument reads as before. No condition. -/
import Derived.Test.YthlpjpcnpcclhaaPL
import Derived.Test.YthlpjpcnpcclhaaP2
import Derived.Test.YthlpjpcnpcclhaaXSum
import Derived.Test.YthlpjpcnpcclhaaXMark2
import Derived.Test.YthlpjpcnpcclhaaXLens
import Derived.WalkLawsBesides
import Derived.ProofKit
import Derived.OpenShut
namespace Go.Proofs.Ythlpjpcnpcclhaa.fnExactSumOf
open Go.ChangeShapes Go.WideShapes Go.ChangeAt Go.RowKit Go.XB Go.XN Go.Proofs.Ythlpjpcnpcclhaa.X
attribute [local go_sem] fillBy opAt deps depOf Region.wanted yielded
attribute [local simp] deps depOf MP.eq MP.agg MP.sl Facts
set_option linter.constructorNameAsVariable false

set_option maxHeartbeats 4000000 in
theorem walk (A0 : Option Addr) (n0 c0 : Nat) (x0 : List TRat) (b0 : List Nat) (w : World) (h0 : Sl w A0 n0 c0 x0 b0) :
    Calls Try.prog 5 #[.slice A0 n0 c0] w (Gives w (.bool true)) := by
  have H0 := hid h0
  have hm0 : n0 ≤ maxLen := Nat.le_trans h0.2.1 h0.2.2.1
  unfold maxLen at hm0
  clear h0
  have k0a : (0 : Int) ≤ 1048576 := by omega
  have m0 : (1048576 : Int) ≤ 1048576 := by omega
  rcases minus_cases 1048576 (cntL TRat.cnt x0) with ⟨k1, e1, l1⟩ | ⟨k1, e1, l1⟩
  · clear e1 l1
    go_enter Try.func5, Try.ntmps5
    go_wp2_with fail
    refine (laws_szRatS _ _ _ x0 _ 1048576 _ H0.out k0a m0).mono ?_
    rintro e us0 ⟨rfl, hbus0⟩
    go_wp2
    go_ret
    exact ⟨rfl, hbus0⟩
  have q0 : (cntL TRat.cnt x0) ≤ 1048576 := by omega
  have k1a : 0 ≤ (minus 1048576 (cntL TRat.cnt x0)) := k1
  clear e1 l1
  go_enter Try.func5, Try.ntmps5
  go_wp2_with fail
  refine (laws_szRatS _ _ _ x0 _ 1048576 _ H0.out k0a m0).mono ?_
  rintro e us0 ⟨rfl, hbus0⟩
  have BW := hid hbus0
  clear hbus0
  go_wp2_with fail
  refine (laws_toRatS _ _ _ x0 _ _ (Sl.below H0.out BW.out) q0).mono ?_
  rintro e u1 ⟨T1, nT1, cT1, tT1, rfl, ha, ho, hb⟩
  replace BW := hid (Below.next BW.out hb)
  have HT := hid ha
  clear ha ho hb
  go_wp2_with fail
  refine (spec_SumOf _ _ _ x0 _ _ HT.out).mono ?_
  rintro e u2 ⟨v2, tW, rfl, ha, ho, hb⟩
  replace BW := hid (Below.next BW.out hb)
  obtain ⟨W1, W2, W3, sW1, W4, W5, W6, sW2, rfl, hqW, _, _⟩ := TRat.agg ha
  have HW := hid ha
  have LW := hid ha.lt
  clear ha ho hb HT hqW
  have SM0 : ∃ sm, Hid (sm = rsum x0) := ⟨_, rfl⟩
  obtain ⟨sm, SM⟩ := SM0
  rw [← SM.out] at HW
  rw [← SM.out]
  have WS2 := hid BW.out.size
  go_wp2_with fail
  refine (laws_toRatS _ _ _ x0 _ _ (Sl.below H0.out (Below.box_ BW.out _)) q0).mono ?_
  rintro e u3 ⟨X0, nX0, cX0, tX, rfl, ha, ho, hb⟩
  have B0_0 : u3.cell? ⟨u2.heap.size, 0, none⟩ = some (.bool sm.num.neg) := (hb.cell (p := ⟨u2.heap.size, 0, none⟩) (by simp)).trans (by go_simp)
  have B0_1 : u3.cell? ⟨u2.heap.size, 1, none⟩ = some (.slice W1 W2 W3) := (hb.cell (p := ⟨u2.heap.size, 1, none⟩) (by simp)).trans (by go_simp)
  have B0_2 : u3.cell? ⟨u2.heap.size, 2, none⟩ = some (.slice W4 W5 W6) := (hb.cell (p := ⟨u2.heap.size, 2, none⟩) (by simp)).trans (by go_simp)
  have L0 : u2.heap.size < u3.heap.size := by have := hb.size; (try simp at this); omega
  replace HW := hid ((HW.out.below (Below.box _)).below hb)
  replace BW := hid (Below.next (Below.box_ BW.out _) hb)
  have HX := hid ha; have FX := hid ho.free
  have U23 := hid (show u2.heap.size < u3.heap.size by have := hb.size; simp at this; omega)
  have WS3 := hid BW.out.size
  have RX := hid (show ∀ b ∈ tX, u2.heap.size + 1 ≤ b ∧ b < u3.heap.size from fun b hb => by have := ho.range b hb; simpa using this)
  clear ha ho hb
  go_wp2_with fail
  refine (impl_SumOf _ _ _ x0 _ _ HX.out).mono ?_
  rintro e u4 ⟨v4, tG, rfl, ha, ho, hb⟩
  replace B0_0 := (hb.cell (p := ⟨u2.heap.size, 0, none⟩) L0).trans (B0_0)
  replace B0_1 := (hb.cell (p := ⟨u2.heap.size, 1, none⟩) L0).trans (B0_1)
  replace B0_2 := (hb.cell (p := ⟨u2.heap.size, 2, none⟩) L0).trans (B0_2)
  replace L0 : u2.heap.size < u4.heap.size := by have := hb.size; (try simp at this); omega
  replace HW := hid (HW.out.below hb)
  replace HX := hid (HX.out.below hb)
  replace FX := hid (FX.out.below hb)
  replace BW := hid (Below.next BW.out hb)
  rw [← SM.out] at ha
  obtain ⟨G1, G2, G3, sG1, G4, G5, G6, sG2, rfl, rfl, hg1, hg2⟩ := TRat.agg ha
  have HG := hid ha; have FG := hid ho.free; have RG := hid ho.range
  have U34 := hid (show u3.heap.size ≤ u4.heap.size from hb.size)
  have LG := hid (show G2 ≤ 1048576 ∧ G5 ≤ 1048576 from ⟨by rw [← hg1.1, SM.out]; exact (rsum_lens x0).1, by rw [← hg2.1, SM.out]; exact (rsum_lens x0).2⟩)
  have HG1 := hid hg1; have HG2 := hid hg2
  clear ha ho hb hg1 hg2
  go_wp2_with fail
  have C := laws_eqRat _ _ sm sm _ _ (u4.alloc (.cells #[.bool sm.num.neg, .slice G1 G2 G3, .slice G4 G5 G6] 28)) (HG.out.below (Below.box _)) (HW.out.below (Below.box _))
  rw [show decide (sm = sm) = true by simp] at C
  refine C.mono ?_
  clear C
  rintro e u5 ⟨rfl, hb⟩
  have B1_0 : u5.cell? ⟨u4.heap.size, 0, none⟩ = some (.bool sm.num.neg) := (hb.cell (p := ⟨u4.heap.size, 0, none⟩) (by simp)).trans (by go_simp)
  have B1_1 : u5.cell? ⟨u4.heap.size, 1, none⟩ = some (.slice G1 G2 G3) := (hb.cell (p := ⟨u4.heap.size, 1, none⟩) (by simp)).trans (by go_simp)
  have B1_2 : u5.cell? ⟨u4.heap.size, 2, none⟩ = some (.slice G4 G5 G6) := (hb.cell (p := ⟨u4.heap.size, 2, none⟩) (by simp)).trans (by go_simp)
  have L1 : u4.heap.size < u5.heap.size := by have := hb.size; (try simp at this); omega
  replace B0_0 := (hb.cell (p := ⟨u2.heap.size, 0, none⟩) (show u2.heap.size < _ by simp; omega)).trans (((Below.box _).cell (p := ⟨u2.heap.size, 0, none⟩) L0).trans B0_0)
  replace B0_1 := (hb.cell (p := ⟨u2.heap.size, 1, none⟩) (show u2.heap.size < _ by simp; omega)).trans (((Below.box _).cell (p := ⟨u2.heap.size, 1, none⟩) L0).trans B0_1)
  replace B0_2 := (hb.cell (p := ⟨u2.heap.size, 2, none⟩) (show u2.heap.size < _ by simp; omega)).trans (((Below.box _).cell (p := ⟨u2.heap.size, 2, none⟩) L0).trans B0_2)
  replace L0 : u2.heap.size < u5.heap.size := by have := hb.size; (try simp at this); omega
  replace HW := hid ((HW.out.below (Below.box _)).below hb)
  replace HX := hid ((HX.out.below (Below.box _)).below hb)
  replace FX := hid ((FX.out.below (Below.box _)).below hb)
  replace HG := hid ((HG.out.below (Below.box _)).below hb)
  replace FG := hid ((FG.out.below (Below.box _)).below hb)
  replace HG1 := hid ((HG1.out.below (Below.box _)).below hb)
  replace HG2 := hid ((HG2.out.below (Below.box _)).below hb)
  replace BW := hid (Below.next (Below.box_ BW.out _) hb)
  clear hb
  go_wp2_with fail
  refine (laws_toRatS _ _ _ x0 _ _ (Sl.below H0.out BW.out) q0).mono ?_
  rintro e u6 ⟨Y0, nY0, cY0, tY, rfl, ha, ho, hb⟩
  replace B0_0 := (hb.cell (p := ⟨u2.heap.size, 0, none⟩) L0).trans (B0_0)
  replace B0_1 := (hb.cell (p := ⟨u2.heap.size, 1, none⟩) L0).trans (B0_1)
  replace B0_2 := (hb.cell (p := ⟨u2.heap.size, 2, none⟩) L0).trans (B0_2)
  replace L0 : u2.heap.size < u6.heap.size := by have := hb.size; (try simp at this); omega
  replace B1_0 := (hb.cell (p := ⟨u4.heap.size, 0, none⟩) L1).trans (B1_0)
  replace B1_1 := (hb.cell (p := ⟨u4.heap.size, 1, none⟩) L1).trans (B1_1)
  replace B1_2 := (hb.cell (p := ⟨u4.heap.size, 2, none⟩) L1).trans (B1_2)
  replace L1 : u4.heap.size < u6.heap.size := by have := hb.size; (try simp at this); omega
  replace HW := hid (HW.out.below hb)
  replace HX := hid (HX.out.below hb)
  replace FX := hid (FX.out.below hb)
  replace HG := hid (HG.out.below hb)
  replace FG := hid (FG.out.below hb)
  replace HG1 := hid (HG1.out.below hb)
  replace HG2 := hid (HG2.out.below hb)
  replace BW := hid (Below.next BW.out hb)
  have HY := hid ha
  clear ha ho hb
  go_wp2_with fail
  have C := laws_eqRatS _ _ _ _ _ _ x0 x0 _ _ _ HX.out HY.out
  rw [show decide (x0 = x0) = true by simp] at C
  refine C.mono ?_
  clear C
  rintro e u7 ⟨rfl, hb⟩
  replace B0_0 := (hb.cell (p := ⟨u2.heap.size, 0, none⟩) L0).trans (B0_0)
  replace B0_1 := (hb.cell (p := ⟨u2.heap.size, 1, none⟩) L0).trans (B0_1)
  replace B0_2 := (hb.cell (p := ⟨u2.heap.size, 2, none⟩) L0).trans (B0_2)
  replace L0 : u2.heap.size < u7.heap.size := by have := hb.size; (try simp at this); omega
  replace B1_0 := (hb.cell (p := ⟨u4.heap.size, 0, none⟩) L1).trans (B1_0)
  replace B1_1 := (hb.cell (p := ⟨u4.heap.size, 1, none⟩) L1).trans (B1_1)
  replace B1_2 := (hb.cell (p := ⟨u4.heap.size, 2, none⟩) L1).trans (B1_2)
  replace L1 : u4.heap.size < u7.heap.size := by have := hb.size; (try simp at this); omega
  replace HW := hid (HW.out.below hb)
  replace HX := hid (HX.out.below hb)
  replace FX := hid (FX.out.below hb)
  replace HG := hid (HG.out.below hb)
  replace FG := hid (FG.out.below hb)
  replace HG1 := hid (HG1.out.below hb)
  replace HG2 := hid (HG2.out.below hb)
  replace BW := hid (Below.next BW.out hb)
  clear hb HY
  go_wp2_with fail
  refine (laws_markRatS _ _ _ x0 _ 1 _ HX.out FX.out (by omega) (by omega) q0).mono ?_
  rintro e u8 ⟨r, rfl, hr, ht⟩
  have hrn : ¬ (r < 0) := by omega
  replace B0_0 := (ht.cell L0 (fun h => by have := RX.out _ h; omega) 0).trans B0_0
  replace B0_1 := (ht.cell L0 (fun h => by have := RX.out _ h; omega) 1).trans B0_1
  replace B0_2 := (ht.cell L0 (fun h => by have := RX.out _ h; omega) 2).trans B0_2
  replace B1_0 := (ht.cell L1 (fun h => by have := RX.out _ h; have := U34.out; omega) 0).trans B1_0
  replace B1_1 := (ht.cell L1 (fun h => by have := RX.out _ h; have := U34.out; omega) 1).trans B1_1
  replace B1_2 := (ht.cell L1 (fun h => by have := RX.out _ h; have := U34.out; omega) 2).trans B1_2
  replace L0 : u2.heap.size < u8.heap.size := by have := ht.size; omega
  replace L1 : u4.heap.size < u8.heap.size := by have := ht.size; omega
  replace HW := hid (HW.out.touch ht (fun b h h2 => by have := LW.out b h; have := RX.out b h2; omega))
  replace HG := hid (HG.out.touch ht (fun b h h2 => by have := RG.out b h; have := RX.out b h2; omega))
  replace FG := hid (FG.out.touch ht (fun b h h2 => by have := RG.out b h; have := RX.out b h2; omega))
  replace HG1 := hid (HG1.out.touch ht (fun b h h2 => by have := RG.out b (List.mem_append_left _ h); have := RX.out b h2; omega))
  replace HG2 := hid (HG2.out.touch ht (fun b h h2 => by have := RG.out b (List.mem_append_right _ h); have := RX.out b h2; omega))
  replace BW := hid (BW.out.touched ht BW.out.size (fun b h => by have := RX.out b h; have := WS2.out; omega))
  clear ht HX FX
  go_wp2_with fail
  have C := laws_eqRat _ _ sm sm _ _ _ HG.out HW.out
  rw [show decide (sm = sm) = true by simp] at C
  refine C.mono ?_
  clear C
  rintro e u9 ⟨rfl, hb⟩
  replace B0_0 := (hb.cell (p := ⟨u2.heap.size, 0, none⟩) L0).trans (B0_0)
  replace B0_1 := (hb.cell (p := ⟨u2.heap.size, 1, none⟩) L0).trans (B0_1)
  replace B0_2 := (hb.cell (p := ⟨u2.heap.size, 2, none⟩) L0).trans (B0_2)
  replace L0 : u2.heap.size < u9.heap.size := by have := hb.size; (try simp at this); omega
  replace B1_0 := (hb.cell (p := ⟨u4.heap.size, 0, none⟩) L1).trans (B1_0)
  replace B1_1 := (hb.cell (p := ⟨u4.heap.size, 1, none⟩) L1).trans (B1_1)
  replace B1_2 := (hb.cell (p := ⟨u4.heap.size, 2, none⟩) L1).trans (B1_2)
  replace L1 : u4.heap.size < u9.heap.size := by have := hb.size; (try simp at this); omega
  replace HW := hid (HW.out.below hb)
  replace HG := hid (HG.out.below hb)
  replace FG := hid (FG.out.below hb)
  replace HG1 := hid (HG1.out.below hb)
  replace HG2 := hid (HG2.out.below hb)
  replace BW := hid (Below.next BW.out hb)
  clear hb
  go_wp2_with fail
  refine (laws_markRat _ _ _ _ _ _ _ _ _ _ _ 1 _ HG1.out HG2.out FG.out (by omega) (by omega) LG.out.1 LG.out.2).mono ?_
  rintro e u10 ⟨rfl, ⟨hg1, hg2⟩, hf, ht⟩
  replace B0_0 := (ht.cell L0 (fun h => by have := RG.out _ h; have := U23.out; omega) 0).trans B0_0
  replace B0_1 := (ht.cell L0 (fun h => by have := RG.out _ h; have := U23.out; omega) 1).trans B0_1
  replace B0_2 := (ht.cell L0 (fun h => by have := RG.out _ h; have := U23.out; omega) 2).trans B0_2
  replace B1_0 := (ht.cell L1 (fun h => by have := RG.out _ h; omega) 0).trans B1_0
  replace B1_1 := (ht.cell L1 (fun h => by have := RG.out _ h; omega) 1).trans B1_1
  replace B1_2 := (ht.cell L1 (fun h => by have := RG.out _ h; omega) 2).trans B1_2
  replace L0 : u2.heap.size < u10.heap.size := by have := ht.size; omega
  replace L1 : u4.heap.size < u10.heap.size := by have := ht.size; omega
  replace HW := hid (HW.out.touch ht (fun b h h2 => by have := LW.out b h; have := RG.out b h2; have := U23.out; omega))
  replace BW := hid (BW.out.touched ht BW.out.size (fun b h => by have := RG.out b h; have := WS3.out; omega))
  clear HG FG HG1 HG2
  have KG1 := hid hg1; have KG2 := hid hg2
  clear ht hg1 hg2 hf
  go_wp2_with fail
  refine (laws_heldRat _ _ _ _ _ _ _ _ _ 1 _ KG1.out KG2.out (by omega) (by omega) LG.out.1 LG.out.2).mono ?_
  rintro e u11 ⟨rfl, hb⟩
  replace B0_0 := (hb.cell (p := ⟨u2.heap.size, 0, none⟩) L0).trans (B0_0)
  replace B0_1 := (hb.cell (p := ⟨u2.heap.size, 1, none⟩) L0).trans (B0_1)
  replace B0_2 := (hb.cell (p := ⟨u2.heap.size, 2, none⟩) L0).trans (B0_2)
  replace L0 : u2.heap.size < u11.heap.size := by have := hb.size; (try simp at this); omega
  replace B1_0 := (hb.cell (p := ⟨u4.heap.size, 0, none⟩) L1).trans (B1_0)
  replace B1_1 := (hb.cell (p := ⟨u4.heap.size, 1, none⟩) L1).trans (B1_1)
  replace B1_2 := (hb.cell (p := ⟨u4.heap.size, 2, none⟩) L1).trans (B1_2)
  replace L1 : u4.heap.size < u11.heap.size := by have := hb.size; (try simp at this); omega
  replace HW := hid (HW.out.below hb)
  replace KG1 := hid (KG1.out.below hb)
  replace KG2 := hid (KG2.out.below hb)
  replace BW := hid (Below.next BW.out hb)
  clear hb
  go_wp2_with fail
  refine (laws_toRatS _ _ _ x0 _ _ (Sl.below H0.out BW.out) q0).mono ?_
  rintro e u12 ⟨Z0, nZ0, cZ0, tZ, rfl, ha, ho, hb⟩
  replace B0_0 := (hb.cell (p := ⟨u2.heap.size, 0, none⟩) L0).trans (B0_0)
  replace B0_1 := (hb.cell (p := ⟨u2.heap.size, 1, none⟩) L0).trans (B0_1)
  replace B0_2 := (hb.cell (p := ⟨u2.heap.size, 2, none⟩) L0).trans (B0_2)
  replace L0 : u2.heap.size < u12.heap.size := by have := hb.size; (try simp at this); omega
  replace B1_0 := (hb.cell (p := ⟨u4.heap.size, 0, none⟩) L1).trans (B1_0)
  replace B1_1 := (hb.cell (p := ⟨u4.heap.size, 1, none⟩) L1).trans (B1_1)
  replace B1_2 := (hb.cell (p := ⟨u4.heap.size, 2, none⟩) L1).trans (B1_2)
  replace L1 : u4.heap.size < u12.heap.size := by have := hb.size; (try simp at this); omega
  replace HW := hid (HW.out.below hb)
  replace KG1 := hid (KG1.out.below hb)
  replace KG2 := hid (KG2.out.below hb)
  replace BW := hid (Below.next BW.out hb)
  have HZ := hid ha
  clear ha ho hb
  go_wp2_with fail
  refine (impl_SumOf _ _ _ x0 _ _ HZ.out).mono ?_
  rintro e u13 ⟨v13, tH, rfl, ha, ho, hb⟩
  replace B0_0 := (hb.cell (p := ⟨u2.heap.size, 0, none⟩) L0).trans (B0_0)
  replace B0_1 := (hb.cell (p := ⟨u2.heap.size, 1, none⟩) L0).trans (B0_1)
  replace B0_2 := (hb.cell (p := ⟨u2.heap.size, 2, none⟩) L0).trans (B0_2)
  replace L0 : u2.heap.size < u13.heap.size := by have := hb.size; (try simp at this); omega
  replace B1_0 := (hb.cell (p := ⟨u4.heap.size, 0, none⟩) L1).trans (B1_0)
  replace B1_1 := (hb.cell (p := ⟨u4.heap.size, 1, none⟩) L1).trans (B1_1)
  replace B1_2 := (hb.cell (p := ⟨u4.heap.size, 2, none⟩) L1).trans (B1_2)
  replace L1 : u4.heap.size < u13.heap.size := by have := hb.size; (try simp at this); omega
  replace HW := hid (HW.out.below hb)
  replace KG1 := hid (KG1.out.below hb)
  replace KG2 := hid (KG2.out.below hb)
  replace BW := hid (Below.next BW.out hb)
  rw [← SM.out] at ha
  obtain ⟨E1, E2, E3, sE1, E4, E5, E6, sE2, rfl, hqE, _, _⟩ := TRat.agg ha
  have HE := hid ha
  clear ha ho hb HZ hqE
  go_wp2_with fail
  have C := laws_eqRat _ _ sm sm _ _ (u13.alloc (.cells #[.bool sm.num.neg, .slice E1 E2 E3, .slice E4 E5 E6] 28)) (HE.out.below (Below.box _)) (HW.out.below (Below.box _))
  rw [show decide (sm = sm) = true by simp] at C
  refine C.mono ?_
  clear C
  rintro e u14 ⟨rfl, hb⟩
  have B2_0 : u14.cell? ⟨u13.heap.size, 0, none⟩ = some (.bool sm.num.neg) := (hb.cell (p := ⟨u13.heap.size, 0, none⟩) (by simp)).trans (by go_simp)
  have B2_1 : u14.cell? ⟨u13.heap.size, 1, none⟩ = some (.slice E1 E2 E3) := (hb.cell (p := ⟨u13.heap.size, 1, none⟩) (by simp)).trans (by go_simp)
  have B2_2 : u14.cell? ⟨u13.heap.size, 2, none⟩ = some (.slice E4 E5 E6) := (hb.cell (p := ⟨u13.heap.size, 2, none⟩) (by simp)).trans (by go_simp)
  have L2 : u13.heap.size < u14.heap.size := by have := hb.size; (try simp at this); omega
  replace B0_0 := (hb.cell (p := ⟨u2.heap.size, 0, none⟩) (show u2.heap.size < _ by simp; omega)).trans (((Below.box _).cell (p := ⟨u2.heap.size, 0, none⟩) L0).trans B0_0)
  replace B0_1 := (hb.cell (p := ⟨u2.heap.size, 1, none⟩) (show u2.heap.size < _ by simp; omega)).trans (((Below.box _).cell (p := ⟨u2.heap.size, 1, none⟩) L0).trans B0_1)
  replace B0_2 := (hb.cell (p := ⟨u2.heap.size, 2, none⟩) (show u2.heap.size < _ by simp; omega)).trans (((Below.box _).cell (p := ⟨u2.heap.size, 2, none⟩) L0).trans B0_2)
  replace L0 : u2.heap.size < u14.heap.size := by have := hb.size; (try simp at this); omega
  replace B1_0 := (hb.cell (p := ⟨u4.heap.size, 0, none⟩) (show u4.heap.size < _ by simp; omega)).trans (((Below.box _).cell (p := ⟨u4.heap.size, 0, none⟩) L1).trans B1_0)
  replace B1_1 := (hb.cell (p := ⟨u4.heap.size, 1, none⟩) (show u4.heap.size < _ by simp; omega)).trans (((Below.box _).cell (p := ⟨u4.heap.size, 1, none⟩) L1).trans B1_1)
  replace B1_2 := (hb.cell (p := ⟨u4.heap.size, 2, none⟩) (show u4.heap.size < _ by simp; omega)).trans (((Below.box _).cell (p := ⟨u4.heap.size, 2, none⟩) L1).trans B1_2)
  replace L1 : u4.heap.size < u14.heap.size := by have := hb.size; (try simp at this); omega
  replace HW := hid ((HW.out.below (Below.box _)).below hb)
  replace KG1 := hid ((KG1.out.below (Below.box _)).below hb)
  replace KG2 := hid ((KG2.out.below (Below.box _)).below hb)
  replace HE := hid ((HE.out.below (Below.box _)).below hb)
  replace BW := hid (Below.next (Below.box_ BW.out _) hb)
  clear hb
  go_wp2_with fail
  refine (laws_heldRat _ _ _ _ _ _ _ _ _ 1 _ KG1.out KG2.out (by omega) (by omega) LG.out.1 LG.out.2).mono ?_
  rintro e u15 ⟨rfl, hb⟩
  replace B0_0 := (hb.cell (p := ⟨u2.heap.size, 0, none⟩) L0).trans (B0_0)
  replace B0_1 := (hb.cell (p := ⟨u2.heap.size, 1, none⟩) L0).trans (B0_1)
  replace B0_2 := (hb.cell (p := ⟨u2.heap.size, 2, none⟩) L0).trans (B0_2)
  replace L0 : u2.heap.size < u15.heap.size := by have := hb.size; (try simp at this); omega
  replace B1_0 := (hb.cell (p := ⟨u4.heap.size, 0, none⟩) L1).trans (B1_0)
  replace B1_1 := (hb.cell (p := ⟨u4.heap.size, 1, none⟩) L1).trans (B1_1)
  replace B1_2 := (hb.cell (p := ⟨u4.heap.size, 2, none⟩) L1).trans (B1_2)
  replace L1 : u4.heap.size < u15.heap.size := by have := hb.size; (try simp at this); omega
  replace B2_0 := (hb.cell (p := ⟨u13.heap.size, 0, none⟩) L2).trans (B2_0)
  replace B2_1 := (hb.cell (p := ⟨u13.heap.size, 1, none⟩) L2).trans (B2_1)
  replace B2_2 := (hb.cell (p := ⟨u13.heap.size, 2, none⟩) L2).trans (B2_2)
  replace L2 : u13.heap.size < u15.heap.size := by have := hb.size; (try simp at this); omega
  replace HW := hid (HW.out.below hb)
  replace KG1 := hid (KG1.out.below hb)
  replace KG2 := hid (KG2.out.below hb)
  replace HE := hid (HE.out.below hb)
  replace BW := hid (Below.next BW.out hb)
  clear hb
  go_wp2
  go_ret
  exact ⟨rfl, BW.out⟩

theorem own : ownKnob Try.prog.godebug = none := by kernel_rfl
theorem laidOut : laidOutB Try.prog = true := by kernel_rfl

set_option maxRecDepth 100000 in
theorem lifted (os : Os) (started : os.Started) (H : Type) (enc : TypeId × Value → H) :
    ReturnsInHanded {} Try.checked os 5 .any (Rows.fnExactSumOfSpec.pre6 enc Try.prog Try.f5 Rows.fnExactSumOfRow.domain false) (Rows.fnExactSumOfSpec.post enc Try.prog Try.f5 false true false false) := by
  refine returnsInHanded_of_change (C := Try.checked) own started (by kernel_rfl) Try.func5
    (ChangeSpec.witness6 (enc := enc) (C := Try.checked) false ⟨#[], #[.slice none 0 0], []⟩ 8 (by kernel_rfl) (by kernel_rfl) (by kernel_rfl) (by kernel_rfl)) ?_
  intro W base args ds gs before hval0 hW hcnd _
  have hval : ∀ (j : Nat) t v, Try.f5.params[j]? = some t → args[j]? = some v → Value.okWide Try.prog W .any base t v := hval0
  have hW' := hW
  obtain ⟨p, q, hA0, hV, rfl, hfz, hnd⟩ := hW
  have hA : DataW.TrodAll enc Try.prog W 0 (fun _ => true) true Try.f5.params.toList args.toList ds p := hA0
  rw [Try.params5] at hA hval
  obtain ⟨v0, vs0, d0, ds0, p0, q0, hargs, rfl, rfl, h0, r0⟩ := trodAll_cons hA
  obtain ⟨rfl, rfl, rfl⟩ := trodAll_nil r0
  obtain rfl : args = #[v0] := by cases args; simp_all
  obtain ⟨rfl, rfl⟩ := trodVars_none hV
  clear hA0 hval0
  simp only [List.append_nil] at hW'
  obtain ⟨A0, n0, c0, x0, b0, rfl, g0⟩ := Opens.sl oLTRat Try.underlying22 (hval 0 22 v0 rfl rfl) h0
  refine (walk _ _ _ x0 b0 W g0).mono fun e W' ⟨he, hB⟩ => ?_
  subst he
  have l0 : ∀ x ∈ p0, x.block < W.heap.size := fun x hx => hW'.lt x (by simp [hx])
  refine ⟨_, rfl, _, _, _, [], p0, [], hW', trodAll_cons_mk (shut_bool Try.underlying4 _) trodAll_mk0, ?_, rfl, hB.frame _, fun h => by cases h⟩
  have ha := trodAll_cons_mk (Below.trod laidOut (by kernel_rfl) (of_decide_eq_true (by kernel_rfl)) h0 hB l0) trodAll_mk0
  simp only [List.append_nil] at ha
  exact ha

theorem proved : Rows.FnExactSumOfSaid :=
  OpenClaim.holds_of_wide 5 Try.f5 rfl rfl rfl rfl rfl rfl rfl ⟨rfl, rfl, rfl, rfl, rfl⟩ rfl rfl rfl rfl rfl (by kernel_rfl) Try.func5 (by kernel_rfl)
    (of_decide_eq_true (by kernel_rfl)) (by unfold Func.isWrapper; first | (rw [if_pos (by decide +kernel)]; kernel_rfl) | (rw [if_neg (by decide +kernel)]; exact ⟨rfl, rfl⟩))
    (fun os started H enc _ => lifted os started H enc)
#print axioms proved
end Go.Proofs.Ythlpjpcnpcclhaa.fnExactSumOf
