/- FnExactRangeOf: for every input, the program's RangeOf returns what the reference's returns: the law returns true, and its argument reads as before. No condition. -/
import Derived.Test.YthlpjpcnpcclhaaPL
import Derived.Test.YthlpjpcnpcclhaaP2
import Derived.Test.YthlpjpcnpcclhaaXRange
import Derived.Test.YthlpjpcnpcclhaaXMark2
import Derived.WalkLawsBesides
import Derived.ProofKit
import Derived.OpenShut
namespace Go.Proofs.Ythlpjpcnpcclhaa.fnExactRangeOf
open Go.ChangeShapes Go.WideShapes Go.ChangeAt Go.RowKit Go.XB Go.XN Go.Proofs.Ythlpjpcnpcclhaa.X
attribute [local go_sem] fillBy opAt deps depOf Region.wanted yielded
attribute [local simp] deps depOf MP.eq MP.agg MP.sl Facts
set_option linter.constructorNameAsVariable false

theorem range_lens {xs : List TRat} {lo hi : TRat} {bo : Bool} (h : (lo, hi, bo) = rangeOf xs) : (lo.num.mag.length ≤ 1048576 ∧ lo.den.length ≤ 1048576) ∧ (hi.num.mag.length ≤ 1048576 ∧ hi.den.length ≤ 1048576) := by
  have key : ∀ (f : TRat → TRat → TRat) (l : List TRat) (x : TRat), (∀ r s, RatV r → RatV s → RatV (f r s)) → RatV x → (∀ r ∈ l, RatV r) → RatV (l.foldl f x) := by
    intro f l
    induction l with
    | nil => intro x _ hx _; exact hx
    | cons a l ih => intro x hf hx hl; exact ih (f x a) hf (hf x a hx (hl a (by simp))) (fun r hr => hl r (by simp [hr]))
  cases xs with
  | nil => cases h; exact ⟨⟨by decide, by decide⟩, by decide, by decide⟩
  | cons x l =>
    change _ = (if (x :: l).all ratOkB then _ else _) at h
    split at h
    · rename_i hok
      have V := fun r (hr : r ∈ x :: l) => ratOkB_iff.1 (List.all_eq_true.1 hok r hr)
      injection h with e1 e2
      injection e2 with e2 _
      have v1 : RatV lo := by rw [e1]; exact key rmin (x :: l) x (fun r s hr hs => ratOkB_iff.1 (rmin_ok (ratOkB_iff.2 hr) (ratOkB_iff.2 hs))) (V x (by simp)) V
      have v2 : RatV hi := by rw [e2]; exact key rmax (x :: l) x (fun r s hr hs => ratOkB_iff.1 (rmax_ok (ratOkB_iff.2 hr) (ratOkB_iff.2 hs))) (V x (by simp)) V
      exact ⟨v1.lens, v2.lens⟩
    · cases h; exact ⟨⟨by decide, by decide⟩, by decide, by decide⟩

set_option maxHeartbeats 8000000 in
theorem walk (A0 : Option Addr) (n0 c0 : Nat) (x0 : List TRat) (b0 : List Nat) (w : World) (h0 : Sl w A0 n0 c0 x0 b0) :
    Calls Try.prog 3 #[.slice A0 n0 c0] w (Gives w (.bool true)) := by
  have H0 := hid h0
  have hm0 : n0 ≤ maxLen := Nat.le_trans h0.2.1 h0.2.2.1
  unfold maxLen at hm0
  clear h0
  have k0a : (0 : Int) ≤ 1048576 := by omega
  have m0 : (1048576 : Int) ≤ 1048576 := by omega
  rcases minus_cases 1048576 (cntL TRat.cnt x0) with ⟨k1, e1, l1⟩ | ⟨k1, e1, l1⟩
  · clear e1 l1
    go_enter Try.func3, Try.ntmps3
    go_wp2_with fail
    refine (laws_szRatS _ _ _ x0 _ 1048576 _ H0.out k0a m0).mono ?_
    rintro e us0 ⟨rfl, hbus0⟩
    go_wp2
    go_ret
    exact ⟨rfl, hbus0⟩
  have q0 : (cntL TRat.cnt x0) ≤ 1048576 := by omega
  have k1a : 0 ≤ (minus 1048576 (cntL TRat.cnt x0)) := k1
  clear e1 l1
  go_enter Try.func3, Try.ntmps3
  go_wp2_with fail
  refine (laws_szRatS _ _ _ x0 _ 1048576 _ H0.out k0a m0).mono ?_
  rintro e us0 ⟨rfl, hbus0⟩
  have BW := hid hbus0
  clear hbus0
  go_wp2_with fail
  refine (laws_toRatS _ _ _ x0 _ _ (Sl.below H0.out BW.out) q0).mono ?_
  rintro e u1 ⟨T1, nT1, cT1, tT1, rfl, ha, ho, hb⟩
  replace BW := hid (Below.next BW.out hb)
  have HT := hid ha
  clear ha ho hb
  go_wp2_with fail
  refine (spec_RangeOf _ _ _ x0 _ _ HT.out).mono ?_
  rintro e u2 ⟨v2, v2b, tW, tV, rfl, ha, ha2, ho, hb⟩
  replace BW := hid (Below.next BW.out hb)
  obtain ⟨W1, W2, W3, sW1, W4, W5, W6, sW2, rfl, hqW, _, _⟩ := TRat.agg ha
  obtain ⟨V1, V2, V3, sV1, V4, V5, V6, sV2, rfl, hqV, _, _⟩ := TRat.agg ha2
  have HW := hid ha; have HV := hid ha2
  have LW := hid ha.lt; have LV := hid ha2.lt
  clear ha ha2 ho hb HT hqW hqV
  obtain ⟨lo, hi, bo, SM⟩ : ∃ lo hi bo, Hid ((lo, hi, bo) = rangeOf x0) := ⟨_, _, _, rfl⟩
  rw [← SM.out] at HW HV ⊢
  have LL := hid (show (lo.num.mag.length ≤ 1048576 ∧ lo.den.length ≤ 1048576) ∧ (hi.num.mag.length ≤ 1048576 ∧ hi.den.length ≤ 1048576) from range_lens SM.out)
  simp only at HW HV ⊢
  have WS2 := hid BW.out.size
  go_wp2_with fail
  refine (laws_toRatS _ _ _ x0 _ _ (Sl.below H0.out (Below.box_ (Below.box_ BW.out _) _)) q0).mono ?_
  rintro e u3 ⟨X0, nX0, cX0, tX, rfl, ha, ho, hb⟩
  have B0_0 : u3.cell? ⟨u2.heap.size, 0, none⟩ = some (.bool lo.num.neg) := (hb.cell (p := ⟨u2.heap.size, 0, none⟩) (by simp <;> omega)).trans (by go_simp)
  have B0_1 : u3.cell? ⟨u2.heap.size, 1, none⟩ = some (.slice W1 W2 W3) := (hb.cell (p := ⟨u2.heap.size, 1, none⟩) (by simp <;> omega)).trans (by go_simp)
  have B0_2 : u3.cell? ⟨u2.heap.size, 2, none⟩ = some (.slice W4 W5 W6) := (hb.cell (p := ⟨u2.heap.size, 2, none⟩) (by simp <;> omega)).trans (by go_simp)
  have L0 : u2.heap.size < u3.heap.size := by have := hb.size; (try simp at this); omega
  have B1_0 : u3.cell? ⟨u2.heap.size + 1, 0, none⟩ = some (.bool hi.num.neg) := (hb.cell (p := ⟨u2.heap.size + 1, 0, none⟩) (by simp <;> omega)).trans (by go_simp)
  have B1_1 : u3.cell? ⟨u2.heap.size + 1, 1, none⟩ = some (.slice V1 V2 V3) := (hb.cell (p := ⟨u2.heap.size + 1, 1, none⟩) (by simp <;> omega)).trans (by go_simp)
  have B1_2 : u3.cell? ⟨u2.heap.size + 1, 2, none⟩ = some (.slice V4 V5 V6) := (hb.cell (p := ⟨u2.heap.size + 1, 2, none⟩) (by simp <;> omega)).trans (by go_simp)
  have L1 : u2.heap.size + 1 < u3.heap.size := by have := hb.size; (try simp at this); omega
  replace HW := hid (((HW.out.below (Below.box _)).below (Below.box _)).below hb)
  replace HV := hid (((HV.out.below (Below.box _)).below (Below.box _)).below hb)
  replace BW := hid (Below.next (Below.box_ (Below.box_ BW.out _) _) hb)
  have HX := hid ha; have FX := hid ho.free
  have U23 := hid (show u2.heap.size + 1 < u3.heap.size by have := hb.size; simp at this; omega)
  have WS3 := hid BW.out.size
  have RX := hid (show ∀ b ∈ tX, u2.heap.size + 1 + 1 ≤ b ∧ b < u3.heap.size from fun b hb => by have := ho.range b hb; simpa using this)
  clear ha ho hb
  go_wp2_with fail
  refine (impl_RangeOf _ _ _ x0 _ _ HX.out).mono ?_
  rintro e u4 ⟨v4, v4b, tG, tK, rfl, ha, ha2, ho, hb⟩
  replace B0_0 := (hb.cell (p := ⟨u2.heap.size, 0, none⟩) L0).trans (B0_0)
  replace B0_1 := (hb.cell (p := ⟨u2.heap.size, 1, none⟩) L0).trans (B0_1)
  replace B0_2 := (hb.cell (p := ⟨u2.heap.size, 2, none⟩) L0).trans (B0_2)
  replace L0 : u2.heap.size < u4.heap.size := by have := hb.size; (try simp at this); omega
  replace B1_0 := (hb.cell (p := ⟨u2.heap.size + 1, 0, none⟩) L1).trans (B1_0)
  replace B1_1 := (hb.cell (p := ⟨u2.heap.size + 1, 1, none⟩) L1).trans (B1_1)
  replace B1_2 := (hb.cell (p := ⟨u2.heap.size + 1, 2, none⟩) L1).trans (B1_2)
  replace L1 : u2.heap.size + 1 < u4.heap.size := by have := hb.size; (try simp at this); omega
  replace HW := hid (HW.out.below hb)
  replace HV := hid (HV.out.below hb)
  replace HX := hid (HX.out.below hb)
  replace FX := hid (FX.out.below hb)
  replace BW := hid (Below.next BW.out hb)
  rw [← SM.out] at ha ha2 ⊢
  simp only at ha ha2 ⊢
  obtain ⟨G1, G2, G3, sG1, G4, G5, G6, sG2, rfl, rfl, hg1, hg2⟩ := TRat.agg ha
  obtain ⟨K1, K2, K3, sK1, K4, K5, K6, sK2, rfl, rfl, hk1, hk2⟩ := TRat.agg ha2
  have HG := hid ha; have HK := hid ha2
  have FG := hid (Free.left ho.free); have FK := hid (Free.right ho.free)
  have AGK := hid (Free.apart ho.free)
  have RG := hid (fun b (h : b ∈ sG1 ++ sG2) => ho.range b (List.mem_append_left _ h)); have RK := hid (fun b (h : b ∈ sK1 ++ sK2) => ho.range b (List.mem_append_right _ h))
  have U34 := hid (show u3.heap.size ≤ u4.heap.size from hb.size)
  have LG := hid (show (G2 ≤ 1048576 ∧ G5 ≤ 1048576) ∧ (K2 ≤ 1048576 ∧ K5 ≤ 1048576) from ⟨⟨by rw [← hg1.1]; exact LL.out.1.1, by rw [← hg2.1]; exact LL.out.1.2⟩, by rw [← hk1.1]; exact LL.out.2.1, by rw [← hk2.1]; exact LL.out.2.2⟩)
  have HG1 := hid hg1; have HG2 := hid hg2; have HK1 := hid hk1; have HK2 := hid hk2
  clear ha ha2 ho hb hg1 hg2 hk1 hk2
  go_wp2_with fail
  have C := laws_eqRat _ _ lo lo _ _ ((u4.alloc (.cells #[.bool lo.num.neg, .slice G1 G2 G3, .slice G4 G5 G6] 28)).alloc (.cells #[.bool hi.num.neg, .slice K1 K2 K3, .slice K4 K5 K6] 28)) ((HG.out.below (Below.box _)).below (Below.box _)) ((HW.out.below (Below.box _)).below (Below.box _))
  rw [show decide (lo = lo) = true by simp] at C
  refine C.mono ?_
  clear C
  rintro e u5 ⟨rfl, hb⟩
  have B2_0 : u5.cell? ⟨u4.heap.size, 0, none⟩ = some (.bool lo.num.neg) := (hb.cell (p := ⟨u4.heap.size, 0, none⟩) (by simp <;> omega)).trans (by go_simp)
  have B2_1 : u5.cell? ⟨u4.heap.size, 1, none⟩ = some (.slice G1 G2 G3) := (hb.cell (p := ⟨u4.heap.size, 1, none⟩) (by simp <;> omega)).trans (by go_simp)
  have B2_2 : u5.cell? ⟨u4.heap.size, 2, none⟩ = some (.slice G4 G5 G6) := (hb.cell (p := ⟨u4.heap.size, 2, none⟩) (by simp <;> omega)).trans (by go_simp)
  have L2 : u4.heap.size < u5.heap.size := by have := hb.size; (try simp at this); omega
  have B3_0 : u5.cell? ⟨u4.heap.size + 1, 0, none⟩ = some (.bool hi.num.neg) := (hb.cell (p := ⟨u4.heap.size + 1, 0, none⟩) (by simp <;> omega)).trans (by go_simp)
  have B3_1 : u5.cell? ⟨u4.heap.size + 1, 1, none⟩ = some (.slice K1 K2 K3) := (hb.cell (p := ⟨u4.heap.size + 1, 1, none⟩) (by simp <;> omega)).trans (by go_simp)
  have B3_2 : u5.cell? ⟨u4.heap.size + 1, 2, none⟩ = some (.slice K4 K5 K6) := (hb.cell (p := ⟨u4.heap.size + 1, 2, none⟩) (by simp <;> omega)).trans (by go_simp)
  have L3 : u4.heap.size + 1 < u5.heap.size := by have := hb.size; (try simp at this); omega
  replace B0_0 := (hb.cell (p := ⟨u2.heap.size, 0, none⟩) (show u2.heap.size < _ by simp; omega)).trans (((Below.box _).cell (p := ⟨u2.heap.size, 0, none⟩) (show u2.heap.size < _ by simp; omega)).trans (((Below.box _).cell (p := ⟨u2.heap.size, 0, none⟩) L0).trans B0_0))
  replace B0_1 := (hb.cell (p := ⟨u2.heap.size, 1, none⟩) (show u2.heap.size < _ by simp; omega)).trans (((Below.box _).cell (p := ⟨u2.heap.size, 1, none⟩) (show u2.heap.size < _ by simp; omega)).trans (((Below.box _).cell (p := ⟨u2.heap.size, 1, none⟩) L0).trans B0_1))
  replace B0_2 := (hb.cell (p := ⟨u2.heap.size, 2, none⟩) (show u2.heap.size < _ by simp; omega)).trans (((Below.box _).cell (p := ⟨u2.heap.size, 2, none⟩) (show u2.heap.size < _ by simp; omega)).trans (((Below.box _).cell (p := ⟨u2.heap.size, 2, none⟩) L0).trans B0_2))
  replace L0 : u2.heap.size < u5.heap.size := by have := hb.size; (try simp at this); omega
  replace B1_0 := (hb.cell (p := ⟨u2.heap.size + 1, 0, none⟩) (show u2.heap.size + 1 < _ by simp; omega)).trans (((Below.box _).cell (p := ⟨u2.heap.size + 1, 0, none⟩) (show u2.heap.size + 1 < _ by simp; omega)).trans (((Below.box _).cell (p := ⟨u2.heap.size + 1, 0, none⟩) L1).trans B1_0))
  replace B1_1 := (hb.cell (p := ⟨u2.heap.size + 1, 1, none⟩) (show u2.heap.size + 1 < _ by simp; omega)).trans (((Below.box _).cell (p := ⟨u2.heap.size + 1, 1, none⟩) (show u2.heap.size + 1 < _ by simp; omega)).trans (((Below.box _).cell (p := ⟨u2.heap.size + 1, 1, none⟩) L1).trans B1_1))
  replace B1_2 := (hb.cell (p := ⟨u2.heap.size + 1, 2, none⟩) (show u2.heap.size + 1 < _ by simp; omega)).trans (((Below.box _).cell (p := ⟨u2.heap.size + 1, 2, none⟩) (show u2.heap.size + 1 < _ by simp; omega)).trans (((Below.box _).cell (p := ⟨u2.heap.size + 1, 2, none⟩) L1).trans B1_2))
  replace L1 : u2.heap.size + 1 < u5.heap.size := by have := hb.size; (try simp at this); omega
  replace HW := hid (((HW.out.below (Below.box _)).below (Below.box _)).below hb)
  replace HV := hid (((HV.out.below (Below.box _)).below (Below.box _)).below hb)
  replace HX := hid (((HX.out.below (Below.box _)).below (Below.box _)).below hb)
  replace FX := hid (((FX.out.below (Below.box _)).below (Below.box _)).below hb)
  replace HG := hid (((HG.out.below (Below.box _)).below (Below.box _)).below hb)
  replace HK := hid (((HK.out.below (Below.box _)).below (Below.box _)).below hb)
  replace FG := hid (((FG.out.below (Below.box _)).below (Below.box _)).below hb)
  replace FK := hid (((FK.out.below (Below.box _)).below (Below.box _)).below hb)
  replace HG1 := hid (((HG1.out.below (Below.box _)).below (Below.box _)).below hb)
  replace HG2 := hid (((HG2.out.below (Below.box _)).below (Below.box _)).below hb)
  replace HK1 := hid (((HK1.out.below (Below.box _)).below (Below.box _)).below hb)
  replace HK2 := hid (((HK2.out.below (Below.box _)).below (Below.box _)).below hb)
  replace BW := hid (Below.next (Below.box_ (Below.box_ BW.out _) _) hb)
  clear hb
  go_wp2_with fail
  have C := laws_eqRat _ _ hi hi _ _ _ HK.out HV.out
  rw [show decide (hi = hi) = true by simp] at C
  refine C.mono ?_
  clear C
  rintro e u5b ⟨rfl, hb⟩
  replace B0_0 := (hb.cell (p := ⟨u2.heap.size, 0, none⟩) L0).trans (B0_0)
  replace B0_1 := (hb.cell (p := ⟨u2.heap.size, 1, none⟩) L0).trans (B0_1)
  replace B0_2 := (hb.cell (p := ⟨u2.heap.size, 2, none⟩) L0).trans (B0_2)
  replace L0 : u2.heap.size < u5b.heap.size := by have := hb.size; (try simp at this); omega
  replace B1_0 := (hb.cell (p := ⟨u2.heap.size + 1, 0, none⟩) L1).trans (B1_0)
  replace B1_1 := (hb.cell (p := ⟨u2.heap.size + 1, 1, none⟩) L1).trans (B1_1)
  replace B1_2 := (hb.cell (p := ⟨u2.heap.size + 1, 2, none⟩) L1).trans (B1_2)
  replace L1 : u2.heap.size + 1 < u5b.heap.size := by have := hb.size; (try simp at this); omega
  replace B2_0 := (hb.cell (p := ⟨u4.heap.size, 0, none⟩) L2).trans (B2_0)
  replace B2_1 := (hb.cell (p := ⟨u4.heap.size, 1, none⟩) L2).trans (B2_1)
  replace B2_2 := (hb.cell (p := ⟨u4.heap.size, 2, none⟩) L2).trans (B2_2)
  replace L2 : u4.heap.size < u5b.heap.size := by have := hb.size; (try simp at this); omega
  replace B3_0 := (hb.cell (p := ⟨u4.heap.size + 1, 0, none⟩) L3).trans (B3_0)
  replace B3_1 := (hb.cell (p := ⟨u4.heap.size + 1, 1, none⟩) L3).trans (B3_1)
  replace B3_2 := (hb.cell (p := ⟨u4.heap.size + 1, 2, none⟩) L3).trans (B3_2)
  replace L3 : u4.heap.size + 1 < u5b.heap.size := by have := hb.size; (try simp at this); omega
  replace HW := hid (HW.out.below hb)
  replace HV := hid (HV.out.below hb)
  replace HX := hid (HX.out.below hb)
  replace FX := hid (FX.out.below hb)
  replace HG := hid (HG.out.below hb)
  replace HK := hid (HK.out.below hb)
  replace FG := hid (FG.out.below hb)
  replace FK := hid (FK.out.below hb)
  replace HG1 := hid (HG1.out.below hb)
  replace HG2 := hid (HG2.out.below hb)
  replace HK1 := hid (HK1.out.below hb)
  replace HK2 := hid (HK2.out.below hb)
  replace BW := hid (Below.next BW.out hb)
  clear hb
  go_wp2_with fail
  refine (laws_toRatS _ _ _ x0 _ _ (Sl.below H0.out BW.out) q0).mono ?_
  rintro e u6 ⟨Y0, nY0, cY0, tY, rfl, ha, ho, hb⟩
  replace B0_0 := (hb.cell (p := ⟨u2.heap.size, 0, none⟩) L0).trans (B0_0)
  replace B0_1 := (hb.cell (p := ⟨u2.heap.size, 1, none⟩) L0).trans (B0_1)
  replace B0_2 := (hb.cell (p := ⟨u2.heap.size, 2, none⟩) L0).trans (B0_2)
  replace L0 : u2.heap.size < u6.heap.size := by have := hb.size; (try simp at this); omega
  replace B1_0 := (hb.cell (p := ⟨u2.heap.size + 1, 0, none⟩) L1).trans (B1_0)
  replace B1_1 := (hb.cell (p := ⟨u2.heap.size + 1, 1, none⟩) L1).trans (B1_1)
  replace B1_2 := (hb.cell (p := ⟨u2.heap.size + 1, 2, none⟩) L1).trans (B1_2)
  replace L1 : u2.heap.size + 1 < u6.heap.size := by have := hb.size; (try simp at this); omega
  replace B2_0 := (hb.cell (p := ⟨u4.heap.size, 0, none⟩) L2).trans (B2_0)
  replace B2_1 := (hb.cell (p := ⟨u4.heap.size, 1, none⟩) L2).trans (B2_1)
  replace B2_2 := (hb.cell (p := ⟨u4.heap.size, 2, none⟩) L2).trans (B2_2)
  replace L2 : u4.heap.size < u6.heap.size := by have := hb.size; (try simp at this); omega
  replace B3_0 := (hb.cell (p := ⟨u4.heap.size + 1, 0, none⟩) L3).trans (B3_0)
  replace B3_1 := (hb.cell (p := ⟨u4.heap.size + 1, 1, none⟩) L3).trans (B3_1)
  replace B3_2 := (hb.cell (p := ⟨u4.heap.size + 1, 2, none⟩) L3).trans (B3_2)
  replace L3 : u4.heap.size + 1 < u6.heap.size := by have := hb.size; (try simp at this); omega
  replace HW := hid (HW.out.below hb)
  replace HV := hid (HV.out.below hb)
  replace HX := hid (HX.out.below hb)
  replace FX := hid (FX.out.below hb)
  replace HG := hid (HG.out.below hb)
  replace HK := hid (HK.out.below hb)
  replace FG := hid (FG.out.below hb)
  replace FK := hid (FK.out.below hb)
  replace HG1 := hid (HG1.out.below hb)
  replace HG2 := hid (HG2.out.below hb)
  replace HK1 := hid (HK1.out.below hb)
  replace HK2 := hid (HK2.out.below hb)
  replace BW := hid (Below.next BW.out hb)
  have HY := hid ha
  clear ha ho hb
  go_wp2_with fail
  have C := laws_eqRatS _ _ _ _ _ _ x0 x0 _ _ _ HX.out HY.out
  rw [show decide (x0 = x0) = true by simp] at C
  refine C.mono ?_
  clear C
  rintro e u7 ⟨rfl, hb⟩
  replace B0_0 := (hb.cell (p := ⟨u2.heap.size, 0, none⟩) L0).trans (B0_0)
  replace B0_1 := (hb.cell (p := ⟨u2.heap.size, 1, none⟩) L0).trans (B0_1)
  replace B0_2 := (hb.cell (p := ⟨u2.heap.size, 2, none⟩) L0).trans (B0_2)
  replace L0 : u2.heap.size < u7.heap.size := by have := hb.size; (try simp at this); omega
  replace B1_0 := (hb.cell (p := ⟨u2.heap.size + 1, 0, none⟩) L1).trans (B1_0)
  replace B1_1 := (hb.cell (p := ⟨u2.heap.size + 1, 1, none⟩) L1).trans (B1_1)
  replace B1_2 := (hb.cell (p := ⟨u2.heap.size + 1, 2, none⟩) L1).trans (B1_2)
  replace L1 : u2.heap.size + 1 < u7.heap.size := by have := hb.size; (try simp at this); omega
  replace B2_0 := (hb.cell (p := ⟨u4.heap.size, 0, none⟩) L2).trans (B2_0)
  replace B2_1 := (hb.cell (p := ⟨u4.heap.size, 1, none⟩) L2).trans (B2_1)
  replace B2_2 := (hb.cell (p := ⟨u4.heap.size, 2, none⟩) L2).trans (B2_2)
  replace L2 : u4.heap.size < u7.heap.size := by have := hb.size; (try simp at this); omega
  replace B3_0 := (hb.cell (p := ⟨u4.heap.size + 1, 0, none⟩) L3).trans (B3_0)
  replace B3_1 := (hb.cell (p := ⟨u4.heap.size + 1, 1, none⟩) L3).trans (B3_1)
  replace B3_2 := (hb.cell (p := ⟨u4.heap.size + 1, 2, none⟩) L3).trans (B3_2)
  replace L3 : u4.heap.size + 1 < u7.heap.size := by have := hb.size; (try simp at this); omega
  replace HW := hid (HW.out.below hb)
  replace HV := hid (HV.out.below hb)
  replace HX := hid (HX.out.below hb)
  replace FX := hid (FX.out.below hb)
  replace HG := hid (HG.out.below hb)
  replace HK := hid (HK.out.below hb)
  replace FG := hid (FG.out.below hb)
  replace FK := hid (FK.out.below hb)
  replace HG1 := hid (HG1.out.below hb)
  replace HG2 := hid (HG2.out.below hb)
  replace HK1 := hid (HK1.out.below hb)
  replace HK2 := hid (HK2.out.below hb)
  replace BW := hid (Below.next BW.out hb)
  clear hb HY
  go_wp2_with fail
  refine (laws_markRatS _ _ _ x0 _ 1 _ HX.out FX.out (by omega) (by omega) q0).mono ?_
  rintro e u8 ⟨r, rfl, hr, ht⟩
  have hrn : ¬ (r < 0) := by omega
  replace B0_0 := (ht.cell L0 (fun h => by have := RX.out _ h; omega) 0).trans B0_0
  replace B0_1 := (ht.cell L0 (fun h => by have := RX.out _ h; omega) 1).trans B0_1
  replace B0_2 := (ht.cell L0 (fun h => by have := RX.out _ h; omega) 2).trans B0_2
  replace B1_0 := (ht.cell L1 (fun h => by have := RX.out _ h; omega) 0).trans B1_0
  replace B1_1 := (ht.cell L1 (fun h => by have := RX.out _ h; omega) 1).trans B1_1
  replace B1_2 := (ht.cell L1 (fun h => by have := RX.out _ h; omega) 2).trans B1_2
  replace B2_0 := (ht.cell L2 (fun h => by have := RX.out _ h; have := U34.out; omega) 0).trans B2_0
  replace B2_1 := (ht.cell L2 (fun h => by have := RX.out _ h; have := U34.out; omega) 1).trans B2_1
  replace B2_2 := (ht.cell L2 (fun h => by have := RX.out _ h; have := U34.out; omega) 2).trans B2_2
  replace B3_0 := (ht.cell L3 (fun h => by have := RX.out _ h; have := U34.out; omega) 0).trans B3_0
  replace B3_1 := (ht.cell L3 (fun h => by have := RX.out _ h; have := U34.out; omega) 1).trans B3_1
  replace B3_2 := (ht.cell L3 (fun h => by have := RX.out _ h; have := U34.out; omega) 2).trans B3_2
  replace L0 : u2.heap.size < u8.heap.size := by have := ht.size; omega
  replace L1 : u2.heap.size + 1 < u8.heap.size := by have := ht.size; omega
  replace L2 : u4.heap.size < u8.heap.size := by have := ht.size; omega
  replace L3 : u4.heap.size + 1 < u8.heap.size := by have := ht.size; omega
  replace HW := hid (HW.out.touch ht (fun b h h2 => by have := LW.out b h; have := RX.out b h2; omega))
  replace HV := hid (HV.out.touch ht (fun b h h2 => by have := LV.out b h; have := RX.out b h2; omega))
  replace HG := hid (HG.out.touch ht (fun b h h2 => by have := RG.out b h; have := RX.out b h2; omega))
  replace HK := hid (HK.out.touch ht (fun b h h2 => by have := RK.out b h; have := RX.out b h2; omega))
  replace FG := hid (FG.out.touch ht (fun b h h2 => by have := RG.out b h; have := RX.out b h2; omega))
  replace FK := hid (FK.out.touch ht (fun b h h2 => by have := RK.out b h; have := RX.out b h2; omega))
  replace HG1 := hid (HG1.out.touch ht (fun b h h2 => by have := RG.out b (List.mem_append_left _ h); have := RX.out b h2; omega))
  replace HG2 := hid (HG2.out.touch ht (fun b h h2 => by have := RG.out b (List.mem_append_right _ h); have := RX.out b h2; omega))
  replace HK1 := hid (HK1.out.touch ht (fun b h h2 => by have := RK.out b (List.mem_append_left _ h); have := RX.out b h2; omega))
  replace HK2 := hid (HK2.out.touch ht (fun b h h2 => by have := RK.out b (List.mem_append_right _ h); have := RX.out b h2; omega))
  replace BW := hid (BW.out.touched ht BW.out.size (fun b h => by have := RX.out b h; have := WS2.out; omega))
  clear ht HX FX
  go_wp2_with fail
  have C := laws_eqRat _ _ lo lo _ _ _ HG.out HW.out
  rw [show decide (lo = lo) = true by simp] at C
  refine C.mono ?_
  clear C
  rintro e u9 ⟨rfl, hb⟩
  replace B0_0 := (hb.cell (p := ⟨u2.heap.size, 0, none⟩) L0).trans (B0_0)
  replace B0_1 := (hb.cell (p := ⟨u2.heap.size, 1, none⟩) L0).trans (B0_1)
  replace B0_2 := (hb.cell (p := ⟨u2.heap.size, 2, none⟩) L0).trans (B0_2)
  replace L0 : u2.heap.size < u9.heap.size := by have := hb.size; (try simp at this); omega
  replace B1_0 := (hb.cell (p := ⟨u2.heap.size + 1, 0, none⟩) L1).trans (B1_0)
  replace B1_1 := (hb.cell (p := ⟨u2.heap.size + 1, 1, none⟩) L1).trans (B1_1)
  replace B1_2 := (hb.cell (p := ⟨u2.heap.size + 1, 2, none⟩) L1).trans (B1_2)
  replace L1 : u2.heap.size + 1 < u9.heap.size := by have := hb.size; (try simp at this); omega
  replace B2_0 := (hb.cell (p := ⟨u4.heap.size, 0, none⟩) L2).trans (B2_0)
  replace B2_1 := (hb.cell (p := ⟨u4.heap.size, 1, none⟩) L2).trans (B2_1)
  replace B2_2 := (hb.cell (p := ⟨u4.heap.size, 2, none⟩) L2).trans (B2_2)
  replace L2 : u4.heap.size < u9.heap.size := by have := hb.size; (try simp at this); omega
  replace B3_0 := (hb.cell (p := ⟨u4.heap.size + 1, 0, none⟩) L3).trans (B3_0)
  replace B3_1 := (hb.cell (p := ⟨u4.heap.size + 1, 1, none⟩) L3).trans (B3_1)
  replace B3_2 := (hb.cell (p := ⟨u4.heap.size + 1, 2, none⟩) L3).trans (B3_2)
  replace L3 : u4.heap.size + 1 < u9.heap.size := by have := hb.size; (try simp at this); omega
  replace HW := hid (HW.out.below hb)
  replace HV := hid (HV.out.below hb)
  replace HG := hid (HG.out.below hb)
  replace HK := hid (HK.out.below hb)
  replace FG := hid (FG.out.below hb)
  replace FK := hid (FK.out.below hb)
  replace HG1 := hid (HG1.out.below hb)
  replace HG2 := hid (HG2.out.below hb)
  replace HK1 := hid (HK1.out.below hb)
  replace HK2 := hid (HK2.out.below hb)
  replace BW := hid (Below.next BW.out hb)
  clear hb
  go_wp2_with fail
  have C := laws_eqRat _ _ hi hi _ _ _ HK.out HV.out
  rw [show decide (hi = hi) = true by simp] at C
  refine C.mono ?_
  clear C
  rintro e u9b ⟨rfl, hb⟩
  replace B0_0 := (hb.cell (p := ⟨u2.heap.size, 0, none⟩) L0).trans (B0_0)
  replace B0_1 := (hb.cell (p := ⟨u2.heap.size, 1, none⟩) L0).trans (B0_1)
  replace B0_2 := (hb.cell (p := ⟨u2.heap.size, 2, none⟩) L0).trans (B0_2)
  replace L0 : u2.heap.size < u9b.heap.size := by have := hb.size; (try simp at this); omega
  replace B1_0 := (hb.cell (p := ⟨u2.heap.size + 1, 0, none⟩) L1).trans (B1_0)
  replace B1_1 := (hb.cell (p := ⟨u2.heap.size + 1, 1, none⟩) L1).trans (B1_1)
  replace B1_2 := (hb.cell (p := ⟨u2.heap.size + 1, 2, none⟩) L1).trans (B1_2)
  replace L1 : u2.heap.size + 1 < u9b.heap.size := by have := hb.size; (try simp at this); omega
  replace B2_0 := (hb.cell (p := ⟨u4.heap.size, 0, none⟩) L2).trans (B2_0)
  replace B2_1 := (hb.cell (p := ⟨u4.heap.size, 1, none⟩) L2).trans (B2_1)
  replace B2_2 := (hb.cell (p := ⟨u4.heap.size, 2, none⟩) L2).trans (B2_2)
  replace L2 : u4.heap.size < u9b.heap.size := by have := hb.size; (try simp at this); omega
  replace B3_0 := (hb.cell (p := ⟨u4.heap.size + 1, 0, none⟩) L3).trans (B3_0)
  replace B3_1 := (hb.cell (p := ⟨u4.heap.size + 1, 1, none⟩) L3).trans (B3_1)
  replace B3_2 := (hb.cell (p := ⟨u4.heap.size + 1, 2, none⟩) L3).trans (B3_2)
  replace L3 : u4.heap.size + 1 < u9b.heap.size := by have := hb.size; (try simp at this); omega
  replace HW := hid (HW.out.below hb)
  replace HV := hid (HV.out.below hb)
  replace HG := hid (HG.out.below hb)
  replace HK := hid (HK.out.below hb)
  replace FG := hid (FG.out.below hb)
  replace FK := hid (FK.out.below hb)
  replace HG1 := hid (HG1.out.below hb)
  replace HG2 := hid (HG2.out.below hb)
  replace HK1 := hid (HK1.out.below hb)
  replace HK2 := hid (HK2.out.below hb)
  replace BW := hid (Below.next BW.out hb)
  clear hb
  go_wp2_with fail
  refine (laws_markRat _ _ _ _ _ _ _ _ _ _ _ 1 _ HG1.out HG2.out FG.out (by omega) (by omega) LG.out.1.1 LG.out.1.2).mono ?_
  rintro e u10 ⟨rfl, ⟨hg1, hg2⟩, hf, ht⟩
  replace B0_0 := (ht.cell L0 (fun h => by have := RG.out _ h; have := U23.out; omega) 0).trans B0_0
  replace B0_1 := (ht.cell L0 (fun h => by have := RG.out _ h; have := U23.out; omega) 1).trans B0_1
  replace B0_2 := (ht.cell L0 (fun h => by have := RG.out _ h; have := U23.out; omega) 2).trans B0_2
  replace B1_0 := (ht.cell L1 (fun h => by have := RG.out _ h; have := U23.out; omega) 0).trans B1_0
  replace B1_1 := (ht.cell L1 (fun h => by have := RG.out _ h; have := U23.out; omega) 1).trans B1_1
  replace B1_2 := (ht.cell L1 (fun h => by have := RG.out _ h; have := U23.out; omega) 2).trans B1_2
  replace B2_0 := (ht.cell L2 (fun h => by have := RG.out _ h; omega) 0).trans B2_0
  replace B2_1 := (ht.cell L2 (fun h => by have := RG.out _ h; omega) 1).trans B2_1
  replace B2_2 := (ht.cell L2 (fun h => by have := RG.out _ h; omega) 2).trans B2_2
  replace B3_0 := (ht.cell L3 (fun h => by have := RG.out _ h; omega) 0).trans B3_0
  replace B3_1 := (ht.cell L3 (fun h => by have := RG.out _ h; omega) 1).trans B3_1
  replace B3_2 := (ht.cell L3 (fun h => by have := RG.out _ h; omega) 2).trans B3_2
  replace L0 : u2.heap.size < u10.heap.size := by have := ht.size; omega
  replace L1 : u2.heap.size + 1 < u10.heap.size := by have := ht.size; omega
  replace L2 : u4.heap.size < u10.heap.size := by have := ht.size; omega
  replace L3 : u4.heap.size + 1 < u10.heap.size := by have := ht.size; omega
  replace HW := hid (HW.out.touch ht (fun b h h2 => by have := LW.out b h; have := RG.out b h2; have := U23.out; omega))
  replace HV := hid (HV.out.touch ht (fun b h h2 => by have := LV.out b h; have := RG.out b h2; have := U23.out; omega))
  replace FK := hid (FK.out.touch ht AGK.out.2)
  replace HK1 := hid (HK1.out.touch ht (fun b h h2 => AGK.out.2 b (List.mem_append_left _ h) h2))
  replace HK2 := hid (HK2.out.touch ht (fun b h h2 => AGK.out.2 b (List.mem_append_right _ h) h2))
  replace BW := hid (BW.out.touched ht BW.out.size (fun b h => by have := RG.out b h; have := WS3.out; omega))
  clear HG HK FG HG1 HG2
  have KG1 := hid hg1; have KG2 := hid hg2
  have hge : 0 ≤ 1 + (G2 : Int) + G5 := by omega
  have hgf : 1 + (G2 : Int) + G5 ≤ 900000000000 := by have := LG.out; omega
  clear ht hg1 hg2 hf
  go_wp2_with fail
  refine (laws_markRat _ _ _ _ _ _ _ _ _ _ _ (1 + (G2 : Int) + G5) _ HK1.out HK2.out FK.out hge hgf LG.out.2.1 LG.out.2.2).mono ?_
  rintro e u10b ⟨rfl, ⟨hg1, hg2⟩, hf, ht⟩
  replace B0_0 := (ht.cell L0 (fun h => by have := RK.out _ h; have := U23.out; omega) 0).trans B0_0
  replace B0_1 := (ht.cell L0 (fun h => by have := RK.out _ h; have := U23.out; omega) 1).trans B0_1
  replace B0_2 := (ht.cell L0 (fun h => by have := RK.out _ h; have := U23.out; omega) 2).trans B0_2
  replace B1_0 := (ht.cell L1 (fun h => by have := RK.out _ h; have := U23.out; omega) 0).trans B1_0
  replace B1_1 := (ht.cell L1 (fun h => by have := RK.out _ h; have := U23.out; omega) 1).trans B1_1
  replace B1_2 := (ht.cell L1 (fun h => by have := RK.out _ h; have := U23.out; omega) 2).trans B1_2
  replace B2_0 := (ht.cell L2 (fun h => by have := RK.out _ h; omega) 0).trans B2_0
  replace B2_1 := (ht.cell L2 (fun h => by have := RK.out _ h; omega) 1).trans B2_1
  replace B2_2 := (ht.cell L2 (fun h => by have := RK.out _ h; omega) 2).trans B2_2
  replace B3_0 := (ht.cell L3 (fun h => by have := RK.out _ h; omega) 0).trans B3_0
  replace B3_1 := (ht.cell L3 (fun h => by have := RK.out _ h; omega) 1).trans B3_1
  replace B3_2 := (ht.cell L3 (fun h => by have := RK.out _ h; omega) 2).trans B3_2
  replace L0 : u2.heap.size < u10b.heap.size := by have := ht.size; omega
  replace L1 : u2.heap.size + 1 < u10b.heap.size := by have := ht.size; omega
  replace L2 : u4.heap.size < u10b.heap.size := by have := ht.size; omega
  replace L3 : u4.heap.size + 1 < u10b.heap.size := by have := ht.size; omega
  replace HW := hid (HW.out.touch ht (fun b h h2 => by have := LW.out b h; have := RK.out b h2; have := U23.out; omega))
  replace HV := hid (HV.out.touch ht (fun b h h2 => by have := LV.out b h; have := RK.out b h2; have := U23.out; omega))
  replace KG1 := hid (KG1.out.touch ht (fun b h h2 => AGK.out.1 b (List.mem_append_left _ h) h2))
  replace KG2 := hid (KG2.out.touch ht (fun b h h2 => AGK.out.1 b (List.mem_append_right _ h) h2))
  replace BW := hid (BW.out.touched ht BW.out.size (fun b h => by have := RK.out b h; have := WS3.out; omega))
  clear FK HK1 HK2
  have KK1 := hid hg1; have KK2 := hid hg2
  clear ht hg1 hg2 hf
  have hne1 : ¬ (1 + (G2 : Int) + G5 < 0) := by omega
  have hne2 : ¬ (1 + (G2 : Int) + G5 + K2 + K5 < 0) := by omega
  go_wp2_with fail
  refine (laws_heldRat _ _ _ _ _ _ _ _ _ 1 _ KG1.out KG2.out (by omega) (by omega) LG.out.1.1 LG.out.1.2).mono ?_
  rintro e u11 ⟨rfl, hb⟩
  replace B0_0 := (hb.cell (p := ⟨u2.heap.size, 0, none⟩) L0).trans (B0_0)
  replace B0_1 := (hb.cell (p := ⟨u2.heap.size, 1, none⟩) L0).trans (B0_1)
  replace B0_2 := (hb.cell (p := ⟨u2.heap.size, 2, none⟩) L0).trans (B0_2)
  replace L0 : u2.heap.size < u11.heap.size := by have := hb.size; (try simp at this); omega
  replace B1_0 := (hb.cell (p := ⟨u2.heap.size + 1, 0, none⟩) L1).trans (B1_0)
  replace B1_1 := (hb.cell (p := ⟨u2.heap.size + 1, 1, none⟩) L1).trans (B1_1)
  replace B1_2 := (hb.cell (p := ⟨u2.heap.size + 1, 2, none⟩) L1).trans (B1_2)
  replace L1 : u2.heap.size + 1 < u11.heap.size := by have := hb.size; (try simp at this); omega
  replace B2_0 := (hb.cell (p := ⟨u4.heap.size, 0, none⟩) L2).trans (B2_0)
  replace B2_1 := (hb.cell (p := ⟨u4.heap.size, 1, none⟩) L2).trans (B2_1)
  replace B2_2 := (hb.cell (p := ⟨u4.heap.size, 2, none⟩) L2).trans (B2_2)
  replace L2 : u4.heap.size < u11.heap.size := by have := hb.size; (try simp at this); omega
  replace B3_0 := (hb.cell (p := ⟨u4.heap.size + 1, 0, none⟩) L3).trans (B3_0)
  replace B3_1 := (hb.cell (p := ⟨u4.heap.size + 1, 1, none⟩) L3).trans (B3_1)
  replace B3_2 := (hb.cell (p := ⟨u4.heap.size + 1, 2, none⟩) L3).trans (B3_2)
  replace L3 : u4.heap.size + 1 < u11.heap.size := by have := hb.size; (try simp at this); omega
  replace HW := hid (HW.out.below hb)
  replace HV := hid (HV.out.below hb)
  replace KG1 := hid (KG1.out.below hb)
  replace KG2 := hid (KG2.out.below hb)
  replace KK1 := hid (KK1.out.below hb)
  replace KK2 := hid (KK2.out.below hb)
  replace BW := hid (Below.next BW.out hb)
  clear hb
  go_wp2_with fail
  refine (laws_heldRat _ _ _ _ _ _ _ _ _ (1 + (G2 : Int) + G5) _ KK1.out KK2.out hge hgf LG.out.2.1 LG.out.2.2).mono ?_
  rintro e u11b ⟨rfl, hb⟩
  replace B0_0 := (hb.cell (p := ⟨u2.heap.size, 0, none⟩) L0).trans (B0_0)
  replace B0_1 := (hb.cell (p := ⟨u2.heap.size, 1, none⟩) L0).trans (B0_1)
  replace B0_2 := (hb.cell (p := ⟨u2.heap.size, 2, none⟩) L0).trans (B0_2)
  replace L0 : u2.heap.size < u11b.heap.size := by have := hb.size; (try simp at this); omega
  replace B1_0 := (hb.cell (p := ⟨u2.heap.size + 1, 0, none⟩) L1).trans (B1_0)
  replace B1_1 := (hb.cell (p := ⟨u2.heap.size + 1, 1, none⟩) L1).trans (B1_1)
  replace B1_2 := (hb.cell (p := ⟨u2.heap.size + 1, 2, none⟩) L1).trans (B1_2)
  replace L1 : u2.heap.size + 1 < u11b.heap.size := by have := hb.size; (try simp at this); omega
  replace B2_0 := (hb.cell (p := ⟨u4.heap.size, 0, none⟩) L2).trans (B2_0)
  replace B2_1 := (hb.cell (p := ⟨u4.heap.size, 1, none⟩) L2).trans (B2_1)
  replace B2_2 := (hb.cell (p := ⟨u4.heap.size, 2, none⟩) L2).trans (B2_2)
  replace L2 : u4.heap.size < u11b.heap.size := by have := hb.size; (try simp at this); omega
  replace B3_0 := (hb.cell (p := ⟨u4.heap.size + 1, 0, none⟩) L3).trans (B3_0)
  replace B3_1 := (hb.cell (p := ⟨u4.heap.size + 1, 1, none⟩) L3).trans (B3_1)
  replace B3_2 := (hb.cell (p := ⟨u4.heap.size + 1, 2, none⟩) L3).trans (B3_2)
  replace L3 : u4.heap.size + 1 < u11b.heap.size := by have := hb.size; (try simp at this); omega
  replace HW := hid (HW.out.below hb)
  replace HV := hid (HV.out.below hb)
  replace KG1 := hid (KG1.out.below hb)
  replace KG2 := hid (KG2.out.below hb)
  replace KK1 := hid (KK1.out.below hb)
  replace KK2 := hid (KK2.out.below hb)
  replace BW := hid (Below.next BW.out hb)
  clear hb
  go_wp2_with fail
  refine (laws_toRatS _ _ _ x0 _ _ (Sl.below H0.out BW.out) q0).mono ?_
  rintro e u12 ⟨Z0, nZ0, cZ0, tZ, rfl, ha, ho, hb⟩
  replace B0_0 := (hb.cell (p := ⟨u2.heap.size, 0, none⟩) L0).trans (B0_0)
  replace B0_1 := (hb.cell (p := ⟨u2.heap.size, 1, none⟩) L0).trans (B0_1)
  replace B0_2 := (hb.cell (p := ⟨u2.heap.size, 2, none⟩) L0).trans (B0_2)
  replace L0 : u2.heap.size < u12.heap.size := by have := hb.size; (try simp at this); omega
  replace B1_0 := (hb.cell (p := ⟨u2.heap.size + 1, 0, none⟩) L1).trans (B1_0)
  replace B1_1 := (hb.cell (p := ⟨u2.heap.size + 1, 1, none⟩) L1).trans (B1_1)
  replace B1_2 := (hb.cell (p := ⟨u2.heap.size + 1, 2, none⟩) L1).trans (B1_2)
  replace L1 : u2.heap.size + 1 < u12.heap.size := by have := hb.size; (try simp at this); omega
  replace B2_0 := (hb.cell (p := ⟨u4.heap.size, 0, none⟩) L2).trans (B2_0)
  replace B2_1 := (hb.cell (p := ⟨u4.heap.size, 1, none⟩) L2).trans (B2_1)
  replace B2_2 := (hb.cell (p := ⟨u4.heap.size, 2, none⟩) L2).trans (B2_2)
  replace L2 : u4.heap.size < u12.heap.size := by have := hb.size; (try simp at this); omega
  replace B3_0 := (hb.cell (p := ⟨u4.heap.size + 1, 0, none⟩) L3).trans (B3_0)
  replace B3_1 := (hb.cell (p := ⟨u4.heap.size + 1, 1, none⟩) L3).trans (B3_1)
  replace B3_2 := (hb.cell (p := ⟨u4.heap.size + 1, 2, none⟩) L3).trans (B3_2)
  replace L3 : u4.heap.size + 1 < u12.heap.size := by have := hb.size; (try simp at this); omega
  replace HW := hid (HW.out.below hb)
  replace HV := hid (HV.out.below hb)
  replace KG1 := hid (KG1.out.below hb)
  replace KG2 := hid (KG2.out.below hb)
  replace KK1 := hid (KK1.out.below hb)
  replace KK2 := hid (KK2.out.below hb)
  replace BW := hid (Below.next BW.out hb)
  have HZ := hid ha
  clear ha ho hb
  go_wp2_with fail
  refine (impl_RangeOf _ _ _ x0 _ _ HZ.out).mono ?_
  rintro e u13 ⟨v13, v13b, tH, tJ, rfl, ha, ha2, ho, hb⟩
  replace B0_0 := (hb.cell (p := ⟨u2.heap.size, 0, none⟩) L0).trans (B0_0)
  replace B0_1 := (hb.cell (p := ⟨u2.heap.size, 1, none⟩) L0).trans (B0_1)
  replace B0_2 := (hb.cell (p := ⟨u2.heap.size, 2, none⟩) L0).trans (B0_2)
  replace L0 : u2.heap.size < u13.heap.size := by have := hb.size; (try simp at this); omega
  replace B1_0 := (hb.cell (p := ⟨u2.heap.size + 1, 0, none⟩) L1).trans (B1_0)
  replace B1_1 := (hb.cell (p := ⟨u2.heap.size + 1, 1, none⟩) L1).trans (B1_1)
  replace B1_2 := (hb.cell (p := ⟨u2.heap.size + 1, 2, none⟩) L1).trans (B1_2)
  replace L1 : u2.heap.size + 1 < u13.heap.size := by have := hb.size; (try simp at this); omega
  replace B2_0 := (hb.cell (p := ⟨u4.heap.size, 0, none⟩) L2).trans (B2_0)
  replace B2_1 := (hb.cell (p := ⟨u4.heap.size, 1, none⟩) L2).trans (B2_1)
  replace B2_2 := (hb.cell (p := ⟨u4.heap.size, 2, none⟩) L2).trans (B2_2)
  replace L2 : u4.heap.size < u13.heap.size := by have := hb.size; (try simp at this); omega
  replace B3_0 := (hb.cell (p := ⟨u4.heap.size + 1, 0, none⟩) L3).trans (B3_0)
  replace B3_1 := (hb.cell (p := ⟨u4.heap.size + 1, 1, none⟩) L3).trans (B3_1)
  replace B3_2 := (hb.cell (p := ⟨u4.heap.size + 1, 2, none⟩) L3).trans (B3_2)
  replace L3 : u4.heap.size + 1 < u13.heap.size := by have := hb.size; (try simp at this); omega
  replace HW := hid (HW.out.below hb)
  replace HV := hid (HV.out.below hb)
  replace KG1 := hid (KG1.out.below hb)
  replace KG2 := hid (KG2.out.below hb)
  replace KK1 := hid (KK1.out.below hb)
  replace KK2 := hid (KK2.out.below hb)
  replace BW := hid (Below.next BW.out hb)
  rw [← SM.out] at ha ha2 ⊢
  simp only at ha ha2 ⊢
  obtain ⟨E1, E2, E3, sE1, E4, E5, E6, sE2, rfl, hqE, _, _⟩ := TRat.agg ha
  obtain ⟨F1, F2, F3, sF1, F4, F5, F6, sF2, rfl, hqF, _, _⟩ := TRat.agg ha2
  have HE := hid ha; have HF := hid ha2
  clear ha ha2 ho hb HZ hqE hqF
  go_wp2_with fail
  have C := laws_eqRat _ _ lo lo _ _ ((u13.alloc (.cells #[.bool lo.num.neg, .slice E1 E2 E3, .slice E4 E5 E6] 28)).alloc (.cells #[.bool hi.num.neg, .slice F1 F2 F3, .slice F4 F5 F6] 28)) ((HE.out.below (Below.box _)).below (Below.box _)) ((HW.out.below (Below.box _)).below (Below.box _))
  rw [show decide (lo = lo) = true by simp] at C
  refine C.mono ?_
  clear C
  rintro e u14 ⟨rfl, hb⟩
  have B4_0 : u14.cell? ⟨u13.heap.size, 0, none⟩ = some (.bool lo.num.neg) := (hb.cell (p := ⟨u13.heap.size, 0, none⟩) (by simp <;> omega)).trans (by go_simp)
  have B4_1 : u14.cell? ⟨u13.heap.size, 1, none⟩ = some (.slice E1 E2 E3) := (hb.cell (p := ⟨u13.heap.size, 1, none⟩) (by simp <;> omega)).trans (by go_simp)
  have B4_2 : u14.cell? ⟨u13.heap.size, 2, none⟩ = some (.slice E4 E5 E6) := (hb.cell (p := ⟨u13.heap.size, 2, none⟩) (by simp <;> omega)).trans (by go_simp)
  have L4 : u13.heap.size < u14.heap.size := by have := hb.size; (try simp at this); omega
  have B5_0 : u14.cell? ⟨u13.heap.size + 1, 0, none⟩ = some (.bool hi.num.neg) := (hb.cell (p := ⟨u13.heap.size + 1, 0, none⟩) (by simp <;> omega)).trans (by go_simp)
  have B5_1 : u14.cell? ⟨u13.heap.size + 1, 1, none⟩ = some (.slice F1 F2 F3) := (hb.cell (p := ⟨u13.heap.size + 1, 1, none⟩) (by simp <;> omega)).trans (by go_simp)
  have B5_2 : u14.cell? ⟨u13.heap.size + 1, 2, none⟩ = some (.slice F4 F5 F6) := (hb.cell (p := ⟨u13.heap.size + 1, 2, none⟩) (by simp <;> omega)).trans (by go_simp)
  have L5 : u13.heap.size + 1 < u14.heap.size := by have := hb.size; (try simp at this); omega
  replace B0_0 := (hb.cell (p := ⟨u2.heap.size, 0, none⟩) (show u2.heap.size < _ by simp; omega)).trans (((Below.box _).cell (p := ⟨u2.heap.size, 0, none⟩) (show u2.heap.size < _ by simp; omega)).trans (((Below.box _).cell (p := ⟨u2.heap.size, 0, none⟩) L0).trans B0_0))
  replace B0_1 := (hb.cell (p := ⟨u2.heap.size, 1, none⟩) (show u2.heap.size < _ by simp; omega)).trans (((Below.box _).cell (p := ⟨u2.heap.size, 1, none⟩) (show u2.heap.size < _ by simp; omega)).trans (((Below.box _).cell (p := ⟨u2.heap.size, 1, none⟩) L0).trans B0_1))
  replace B0_2 := (hb.cell (p := ⟨u2.heap.size, 2, none⟩) (show u2.heap.size < _ by simp; omega)).trans (((Below.box _).cell (p := ⟨u2.heap.size, 2, none⟩) (show u2.heap.size < _ by simp; omega)).trans (((Below.box _).cell (p := ⟨u2.heap.size, 2, none⟩) L0).trans B0_2))
  replace L0 : u2.heap.size < u14.heap.size := by have := hb.size; (try simp at this); omega
  replace B1_0 := (hb.cell (p := ⟨u2.heap.size + 1, 0, none⟩) (show u2.heap.size + 1 < _ by simp; omega)).trans (((Below.box _).cell (p := ⟨u2.heap.size + 1, 0, none⟩) (show u2.heap.size + 1 < _ by simp; omega)).trans (((Below.box _).cell (p := ⟨u2.heap.size + 1, 0, none⟩) L1).trans B1_0))
  replace B1_1 := (hb.cell (p := ⟨u2.heap.size + 1, 1, none⟩) (show u2.heap.size + 1 < _ by simp; omega)).trans (((Below.box _).cell (p := ⟨u2.heap.size + 1, 1, none⟩) (show u2.heap.size + 1 < _ by simp; omega)).trans (((Below.box _).cell (p := ⟨u2.heap.size + 1, 1, none⟩) L1).trans B1_1))
  replace B1_2 := (hb.cell (p := ⟨u2.heap.size + 1, 2, none⟩) (show u2.heap.size + 1 < _ by simp; omega)).trans (((Below.box _).cell (p := ⟨u2.heap.size + 1, 2, none⟩) (show u2.heap.size + 1 < _ by simp; omega)).trans (((Below.box _).cell (p := ⟨u2.heap.size + 1, 2, none⟩) L1).trans B1_2))
  replace L1 : u2.heap.size + 1 < u14.heap.size := by have := hb.size; (try simp at this); omega
  replace B2_0 := (hb.cell (p := ⟨u4.heap.size, 0, none⟩) (show u4.heap.size < _ by simp; omega)).trans (((Below.box _).cell (p := ⟨u4.heap.size, 0, none⟩) (show u4.heap.size < _ by simp; omega)).trans (((Below.box _).cell (p := ⟨u4.heap.size, 0, none⟩) L2).trans B2_0))
  replace B2_1 := (hb.cell (p := ⟨u4.heap.size, 1, none⟩) (show u4.heap.size < _ by simp; omega)).trans (((Below.box _).cell (p := ⟨u4.heap.size, 1, none⟩) (show u4.heap.size < _ by simp; omega)).trans (((Below.box _).cell (p := ⟨u4.heap.size, 1, none⟩) L2).trans B2_1))
  replace B2_2 := (hb.cell (p := ⟨u4.heap.size, 2, none⟩) (show u4.heap.size < _ by simp; omega)).trans (((Below.box _).cell (p := ⟨u4.heap.size, 2, none⟩) (show u4.heap.size < _ by simp; omega)).trans (((Below.box _).cell (p := ⟨u4.heap.size, 2, none⟩) L2).trans B2_2))
  replace L2 : u4.heap.size < u14.heap.size := by have := hb.size; (try simp at this); omega
  replace B3_0 := (hb.cell (p := ⟨u4.heap.size + 1, 0, none⟩) (show u4.heap.size + 1 < _ by simp; omega)).trans (((Below.box _).cell (p := ⟨u4.heap.size + 1, 0, none⟩) (show u4.heap.size + 1 < _ by simp; omega)).trans (((Below.box _).cell (p := ⟨u4.heap.size + 1, 0, none⟩) L3).trans B3_0))
  replace B3_1 := (hb.cell (p := ⟨u4.heap.size + 1, 1, none⟩) (show u4.heap.size + 1 < _ by simp; omega)).trans (((Below.box _).cell (p := ⟨u4.heap.size + 1, 1, none⟩) (show u4.heap.size + 1 < _ by simp; omega)).trans (((Below.box _).cell (p := ⟨u4.heap.size + 1, 1, none⟩) L3).trans B3_1))
  replace B3_2 := (hb.cell (p := ⟨u4.heap.size + 1, 2, none⟩) (show u4.heap.size + 1 < _ by simp; omega)).trans (((Below.box _).cell (p := ⟨u4.heap.size + 1, 2, none⟩) (show u4.heap.size + 1 < _ by simp; omega)).trans (((Below.box _).cell (p := ⟨u4.heap.size + 1, 2, none⟩) L3).trans B3_2))
  replace L3 : u4.heap.size + 1 < u14.heap.size := by have := hb.size; (try simp at this); omega
  replace HW := hid (((HW.out.below (Below.box _)).below (Below.box _)).below hb)
  replace HV := hid (((HV.out.below (Below.box _)).below (Below.box _)).below hb)
  replace KG1 := hid (((KG1.out.below (Below.box _)).below (Below.box _)).below hb)
  replace KG2 := hid (((KG2.out.below (Below.box _)).below (Below.box _)).below hb)
  replace KK1 := hid (((KK1.out.below (Below.box _)).below (Below.box _)).below hb)
  replace KK2 := hid (((KK2.out.below (Below.box _)).below (Below.box _)).below hb)
  replace HE := hid (((HE.out.below (Below.box _)).below (Below.box _)).below hb)
  replace HF := hid (((HF.out.below (Below.box _)).below (Below.box _)).below hb)
  replace BW := hid (Below.next (Below.box_ (Below.box_ BW.out _) _) hb)
  clear hb
  go_wp2_with fail
  have C := laws_eqRat _ _ hi hi _ _ _ HF.out HV.out
  rw [show decide (hi = hi) = true by simp] at C
  refine C.mono ?_
  clear C
  rintro e u14b ⟨rfl, hb⟩
  replace B0_0 := (hb.cell (p := ⟨u2.heap.size, 0, none⟩) L0).trans (B0_0)
  replace B0_1 := (hb.cell (p := ⟨u2.heap.size, 1, none⟩) L0).trans (B0_1)
  replace B0_2 := (hb.cell (p := ⟨u2.heap.size, 2, none⟩) L0).trans (B0_2)
  replace L0 : u2.heap.size < u14b.heap.size := by have := hb.size; (try simp at this); omega
  replace B1_0 := (hb.cell (p := ⟨u2.heap.size + 1, 0, none⟩) L1).trans (B1_0)
  replace B1_1 := (hb.cell (p := ⟨u2.heap.size + 1, 1, none⟩) L1).trans (B1_1)
  replace B1_2 := (hb.cell (p := ⟨u2.heap.size + 1, 2, none⟩) L1).trans (B1_2)
  replace L1 : u2.heap.size + 1 < u14b.heap.size := by have := hb.size; (try simp at this); omega
  replace B2_0 := (hb.cell (p := ⟨u4.heap.size, 0, none⟩) L2).trans (B2_0)
  replace B2_1 := (hb.cell (p := ⟨u4.heap.size, 1, none⟩) L2).trans (B2_1)
  replace B2_2 := (hb.cell (p := ⟨u4.heap.size, 2, none⟩) L2).trans (B2_2)
  replace L2 : u4.heap.size < u14b.heap.size := by have := hb.size; (try simp at this); omega
  replace B3_0 := (hb.cell (p := ⟨u4.heap.size + 1, 0, none⟩) L3).trans (B3_0)
  replace B3_1 := (hb.cell (p := ⟨u4.heap.size + 1, 1, none⟩) L3).trans (B3_1)
  replace B3_2 := (hb.cell (p := ⟨u4.heap.size + 1, 2, none⟩) L3).trans (B3_2)
  replace L3 : u4.heap.size + 1 < u14b.heap.size := by have := hb.size; (try simp at this); omega
  replace B4_0 := (hb.cell (p := ⟨u13.heap.size, 0, none⟩) L4).trans (B4_0)
  replace B4_1 := (hb.cell (p := ⟨u13.heap.size, 1, none⟩) L4).trans (B4_1)
  replace B4_2 := (hb.cell (p := ⟨u13.heap.size, 2, none⟩) L4).trans (B4_2)
  replace L4 : u13.heap.size < u14b.heap.size := by have := hb.size; (try simp at this); omega
  replace B5_0 := (hb.cell (p := ⟨u13.heap.size + 1, 0, none⟩) L5).trans (B5_0)
  replace B5_1 := (hb.cell (p := ⟨u13.heap.size + 1, 1, none⟩) L5).trans (B5_1)
  replace B5_2 := (hb.cell (p := ⟨u13.heap.size + 1, 2, none⟩) L5).trans (B5_2)
  replace L5 : u13.heap.size + 1 < u14b.heap.size := by have := hb.size; (try simp at this); omega
  replace HW := hid (HW.out.below hb)
  replace HV := hid (HV.out.below hb)
  replace KG1 := hid (KG1.out.below hb)
  replace KG2 := hid (KG2.out.below hb)
  replace KK1 := hid (KK1.out.below hb)
  replace KK2 := hid (KK2.out.below hb)
  replace HE := hid (HE.out.below hb)
  replace HF := hid (HF.out.below hb)
  replace BW := hid (Below.next BW.out hb)
  clear hb
  go_wp2_with fail
  refine (laws_heldRat _ _ _ _ _ _ _ _ _ 1 _ KG1.out KG2.out (by omega) (by omega) LG.out.1.1 LG.out.1.2).mono ?_
  rintro e u15 ⟨rfl, hb⟩
  replace B0_0 := (hb.cell (p := ⟨u2.heap.size, 0, none⟩) L0).trans (B0_0)
  replace B0_1 := (hb.cell (p := ⟨u2.heap.size, 1, none⟩) L0).trans (B0_1)
  replace B0_2 := (hb.cell (p := ⟨u2.heap.size, 2, none⟩) L0).trans (B0_2)
  replace L0 : u2.heap.size < u15.heap.size := by have := hb.size; (try simp at this); omega
  replace B1_0 := (hb.cell (p := ⟨u2.heap.size + 1, 0, none⟩) L1).trans (B1_0)
  replace B1_1 := (hb.cell (p := ⟨u2.heap.size + 1, 1, none⟩) L1).trans (B1_1)
  replace B1_2 := (hb.cell (p := ⟨u2.heap.size + 1, 2, none⟩) L1).trans (B1_2)
  replace L1 : u2.heap.size + 1 < u15.heap.size := by have := hb.size; (try simp at this); omega
  replace B2_0 := (hb.cell (p := ⟨u4.heap.size, 0, none⟩) L2).trans (B2_0)
  replace B2_1 := (hb.cell (p := ⟨u4.heap.size, 1, none⟩) L2).trans (B2_1)
  replace B2_2 := (hb.cell (p := ⟨u4.heap.size, 2, none⟩) L2).trans (B2_2)
  replace L2 : u4.heap.size < u15.heap.size := by have := hb.size; (try simp at this); omega
  replace B3_0 := (hb.cell (p := ⟨u4.heap.size + 1, 0, none⟩) L3).trans (B3_0)
  replace B3_1 := (hb.cell (p := ⟨u4.heap.size + 1, 1, none⟩) L3).trans (B3_1)
  replace B3_2 := (hb.cell (p := ⟨u4.heap.size + 1, 2, none⟩) L3).trans (B3_2)
  replace L3 : u4.heap.size + 1 < u15.heap.size := by have := hb.size; (try simp at this); omega
  replace B4_0 := (hb.cell (p := ⟨u13.heap.size, 0, none⟩) L4).trans (B4_0)
  replace B4_1 := (hb.cell (p := ⟨u13.heap.size, 1, none⟩) L4).trans (B4_1)
  replace B4_2 := (hb.cell (p := ⟨u13.heap.size, 2, none⟩) L4).trans (B4_2)
  replace L4 : u13.heap.size < u15.heap.size := by have := hb.size; (try simp at this); omega
  replace B5_0 := (hb.cell (p := ⟨u13.heap.size + 1, 0, none⟩) L5).trans (B5_0)
  replace B5_1 := (hb.cell (p := ⟨u13.heap.size + 1, 1, none⟩) L5).trans (B5_1)
  replace B5_2 := (hb.cell (p := ⟨u13.heap.size + 1, 2, none⟩) L5).trans (B5_2)
  replace L5 : u13.heap.size + 1 < u15.heap.size := by have := hb.size; (try simp at this); omega
  replace HW := hid (HW.out.below hb)
  replace HV := hid (HV.out.below hb)
  replace KG1 := hid (KG1.out.below hb)
  replace KG2 := hid (KG2.out.below hb)
  replace KK1 := hid (KK1.out.below hb)
  replace KK2 := hid (KK2.out.below hb)
  replace HE := hid (HE.out.below hb)
  replace HF := hid (HF.out.below hb)
  replace BW := hid (Below.next BW.out hb)
  clear hb
  go_wp2_with fail
  refine (laws_heldRat _ _ _ _ _ _ _ _ _ (1 + (G2 : Int) + G5) _ KK1.out KK2.out hge hgf LG.out.2.1 LG.out.2.2).mono ?_
  rintro e u15b ⟨rfl, hb⟩
  replace B0_0 := (hb.cell (p := ⟨u2.heap.size, 0, none⟩) L0).trans (B0_0)
  replace B0_1 := (hb.cell (p := ⟨u2.heap.size, 1, none⟩) L0).trans (B0_1)
  replace B0_2 := (hb.cell (p := ⟨u2.heap.size, 2, none⟩) L0).trans (B0_2)
  replace L0 : u2.heap.size < u15b.heap.size := by have := hb.size; (try simp at this); omega
  replace B1_0 := (hb.cell (p := ⟨u2.heap.size + 1, 0, none⟩) L1).trans (B1_0)
  replace B1_1 := (hb.cell (p := ⟨u2.heap.size + 1, 1, none⟩) L1).trans (B1_1)
  replace B1_2 := (hb.cell (p := ⟨u2.heap.size + 1, 2, none⟩) L1).trans (B1_2)
  replace L1 : u2.heap.size + 1 < u15b.heap.size := by have := hb.size; (try simp at this); omega
  replace B2_0 := (hb.cell (p := ⟨u4.heap.size, 0, none⟩) L2).trans (B2_0)
  replace B2_1 := (hb.cell (p := ⟨u4.heap.size, 1, none⟩) L2).trans (B2_1)
  replace B2_2 := (hb.cell (p := ⟨u4.heap.size, 2, none⟩) L2).trans (B2_2)
  replace L2 : u4.heap.size < u15b.heap.size := by have := hb.size; (try simp at this); omega
  replace B3_0 := (hb.cell (p := ⟨u4.heap.size + 1, 0, none⟩) L3).trans (B3_0)
  replace B3_1 := (hb.cell (p := ⟨u4.heap.size + 1, 1, none⟩) L3).trans (B3_1)
  replace B3_2 := (hb.cell (p := ⟨u4.heap.size + 1, 2, none⟩) L3).trans (B3_2)
  replace L3 : u4.heap.size + 1 < u15b.heap.size := by have := hb.size; (try simp at this); omega
  replace B4_0 := (hb.cell (p := ⟨u13.heap.size, 0, none⟩) L4).trans (B4_0)
  replace B4_1 := (hb.cell (p := ⟨u13.heap.size, 1, none⟩) L4).trans (B4_1)
  replace B4_2 := (hb.cell (p := ⟨u13.heap.size, 2, none⟩) L4).trans (B4_2)
  replace L4 : u13.heap.size < u15b.heap.size := by have := hb.size; (try simp at this); omega
  replace B5_0 := (hb.cell (p := ⟨u13.heap.size + 1, 0, none⟩) L5).trans (B5_0)
  replace B5_1 := (hb.cell (p := ⟨u13.heap.size + 1, 1, none⟩) L5).trans (B5_1)
  replace B5_2 := (hb.cell (p := ⟨u13.heap.size + 1, 2, none⟩) L5).trans (B5_2)
  replace L5 : u13.heap.size + 1 < u15b.heap.size := by have := hb.size; (try simp at this); omega
  replace HW := hid (HW.out.below hb)
  replace HV := hid (HV.out.below hb)
  replace KG1 := hid (KG1.out.below hb)
  replace KG2 := hid (KG2.out.below hb)
  replace KK1 := hid (KK1.out.below hb)
  replace KK2 := hid (KK2.out.below hb)
  replace HE := hid (HE.out.below hb)
  replace HF := hid (HF.out.below hb)
  replace BW := hid (Below.next BW.out hb)
  clear hb
  go_wp2
  go_ret
  exact ⟨rfl, BW.out⟩

theorem own : ownKnob Try.prog.godebug = none := by kernel_rfl
theorem laidOut : laidOutB Try.prog = true := by kernel_rfl

set_option maxRecDepth 100000 in
theorem lifted (os : Os) (started : os.Started) (H : Type) (enc : TypeId × Value → H) :
    ReturnsInHanded {} Try.checked os 3 .any (Rows.fnExactRangeOfSpec.pre6 enc Try.prog Try.f3 Rows.fnExactRangeOfRow.domain false) (Rows.fnExactRangeOfSpec.post enc Try.prog Try.f3 false true false false) := by
  refine returnsInHanded_of_change (C := Try.checked) own started (by kernel_rfl) Try.func3
    (ChangeSpec.witness6 (enc := enc) (C := Try.checked) false ⟨#[], #[.slice none 0 0], []⟩ 8 (by kernel_rfl) (by kernel_rfl) (by kernel_rfl) (by kernel_rfl)) ?_
  intro W base args ds gs before hval0 hW hcnd _
  have hval : ∀ (j : Nat) t v, Try.f3.params[j]? = some t → args[j]? = some v → Value.okWide Try.prog W .any base t v := hval0
  have hW' := hW
  obtain ⟨p, q, hA0, hV, rfl, hfz, hnd⟩ := hW
  have hA : DataW.TrodAll enc Try.prog W 0 (fun _ => true) true Try.f3.params.toList args.toList ds p := hA0
  rw [Try.params3] at hA hval
  obtain ⟨v0, vs0, d0, ds0, p0, q0, hargs, rfl, rfl, h0, r0⟩ := trodAll_cons hA
  obtain ⟨rfl, rfl, rfl⟩ := trodAll_nil r0
  obtain rfl : args = #[v0] := by cases args; simp_all
  obtain ⟨rfl, rfl⟩ := trodVars_none hV
  clear hA0 hval0
  simp only [List.append_nil] at hW'
  obtain ⟨A0, n0, c0, x0, b0, rfl, g0⟩ := Opens.sl oLTRat Try.underlying22 (hval 0 22 v0 rfl rfl) h0
  refine (walk _ _ _ x0 b0 W g0).mono fun e W' ⟨he, hB⟩ => ?_
  subst he
  have l0 : ∀ x ∈ p0, x.block < W.heap.size := fun x hx => hW'.lt x (by simp [hx])
  refine ⟨_, rfl, _, _, _, [], p0, [], hW', trodAll_cons_mk (shut_bool Try.underlying4 _) trodAll_mk0, ?_, rfl, hB.frame _, fun h => by cases h⟩
  have ha := trodAll_cons_mk (Below.trod laidOut (by kernel_rfl) (of_decide_eq_true (by kernel_rfl)) h0 hB l0) trodAll_mk0
  simp only [List.append_nil] at ha
  exact ha

theorem proved : Rows.FnExactRangeOfSaid :=
  OpenClaim.holds_of_wide 3 Try.f3 rfl rfl rfl rfl rfl rfl rfl ⟨rfl, rfl, rfl, rfl, rfl⟩ rfl rfl rfl rfl rfl (by kernel_rfl) Try.func3 (by kernel_rfl)
    (of_decide_eq_true (by kernel_rfl)) (by unfold Func.isWrapper; first | (rw [if_pos (by decide +kernel)]; kernel_rfl) | (rw [if_neg (by decide +kernel)]; exact ⟨rfl, rfl⟩))
    (fun os started H enc _ => lifted os started H enc)
#print axioms proved
end Go.Proofs.Ythlpjpcnpcclhaa.fnExactRangeOf
