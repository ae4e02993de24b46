/- FnExactMidPoints: for every input, the program's MidPoints returns what the reference's returns: the law returns true, and its argument reads as before. No condition. -/
import Derived.Test.YthlpjpcnpcclhaaGreatPL
import Derived.Test.YthlpjpcnpcclhaaGreatP2
import Derived.Test.YthlpjpcnpcclhaaGreatXMid3
import Derived.Test.YthlpjpcnpcclhaaGreatXMkP2
import Derived.Test.YthlpjpcnpcclhaaGreatXMkP3
import Derived.Test.YthlpjpcnpcclhaaGreatXLens
import Derived.WalkLawsBesides
import Derived.ProofKit
import Derived.OpenShut
namespace Go.Proofs.YthlpjpcnpcclhaaGreat.fnExactMidPoints
open Go.ChangeShapes Go.WideShapes Go.ChangeAt Go.RowKit Go.XB Go.XN Go.Proofs.YthlpjpcnpcclhaaGreat.X
attribute [local go_sem] fillBy opAt deps depOf Region.wanted yielded
attribute [local simp] deps depOf MP.eq MP.agg MP.sl Facts
set_option linter.constructorNameAsVariable false

theorem pnx_pos (xs : List TPoint) : ¬ (pnx 1 xs < 0) := by unfold pnx; omega
theorem mul_cnt (r s : TRat) : (rmul r s).cnt ≤ 48 := by
  unfold TRat.cnt TBigInt.cnt rmul
  split
  · have := mkR_lens (numv r * numv s) (denv r * denv s); omega
  · decide
theorem mid_cnt (p q : TPoint) : (pmid p q).cnt ≤ 96 := by
  unfold pmid pscale ifP TPoint.cnt
  cases ptOkB _
  · exact (by decide : zeroP.x.cnt + zeroP.y.cnt ≤ 96)
  · rw [cond_true]
    have := mul_cnt (mkR 1 2) (padd p q).x
    have := mul_cnt (mkR 1 2) (padd p q).y
    show (rmul _ _).cnt + (rmul _ _).cnt ≤ 96
    omega
theorem mids_cnt (xs : List TPoint) : cntL TPoint.cnt (midsOf xs) ≤ 1048576 := by
  match xs with
  | [] => decide
  | [_] => exact (by decide : cntL TPoint.cnt [] ≤ 1048576)
  | [_, _] => exact (by decide : cntL TPoint.cnt [] ≤ 1048576)
  | [a, b, c] =>
    show cntL TPoint.cnt (if _ then _ else _) ≤ _
    split
    · unfold cntL mids3
      have := mid_cnt b c; have := mid_cnt c a; have := mid_cnt a b
      simp only [List.map_cons, List.map_nil, List.sum_cons, List.sum_nil, List.length_cons, List.length_nil]
      omega
    · decide
  | _ :: _ :: _ :: _ :: _ => exact (by decide : cntL TPoint.cnt [] ≤ 1048576)

set_option maxHeartbeats 4000000 in
theorem walk (A0 : Option Addr) (n0 c0 : Nat) (x0 : List TPoint) (b0 : List Nat) (w : World) (h0 : Sl w A0 n0 c0 x0 b0) :
    Calls Tryz.prog 3 #[.slice A0 n0 c0] w (Gives w (.bool true)) := by
  have H0 := hid h0
  have hm0 : n0 ≤ maxLen := Nat.le_trans h0.2.1 h0.2.2.1
  unfold maxLen at hm0
  clear h0
  have k0a : (0 : Int) ≤ 1048576 := by omega
  have m0 : (1048576 : Int) ≤ 1048576 := by omega
  rcases minus_cases 1048576 (cntL TPoint.cnt x0) with ⟨k1, e1, l1⟩ | ⟨k1, e1, l1⟩
  · clear e1 l1
    go_enter Tryz.func3, Tryz.ntmps3
    go_wp2_with fail
    refine (laws_szPointS _ _ _ x0 _ 1048576 _ H0.out k0a m0).mono ?_
    rintro e us0 ⟨rfl, hbus0⟩
    go_wp2
    go_ret
    exact ⟨rfl, hbus0⟩
  have q0 : (cntL TPoint.cnt x0) ≤ 1048576 := by omega
  have k1a : 0 ≤ (minus 1048576 (cntL TPoint.cnt x0)) := k1
  have LO := hid (mids_cnt x0)
  clear e1 l1
  go_enter Tryz.func3, Tryz.ntmps3
  go_wp2_with fail
  refine (laws_szPointS _ _ _ x0 _ 1048576 _ H0.out k0a m0).mono ?_
  rintro e us0 ⟨rfl, hbus0⟩
  have BW := hid hbus0
  clear hbus0
  go_wp2_with fail
  refine (laws_toPointS _ _ _ x0 _ _ (Sl.below H0.out BW.out) q0).mono ?_
  rintro e u1 ⟨T1, nT1, cT1, tT1, rfl, ha, ho, hb⟩
  replace BW := hid (Below.next BW.out hb)
  have HT := hid ha
  clear ha ho hb
  go_wp2_with fail
  refine (spec_MidPoints _ _ _ x0 _ _ HT.out).mono ?_
  rintro e u2 ⟨W1, nW, cW, sW, rfl, ha, ho, hb⟩
  replace BW := hid (Below.next BW.out hb)
  have HW := hid ha
  have LW := hid ha.lt
  have WS2 := hid BW.out.size
  clear ha ho hb HT
  go_wp2_with fail
  refine (laws_toPointS _ _ _ x0 _ _ (Sl.below H0.out BW.out) q0).mono ?_
  rintro e u3 ⟨X0, nX0, cX0, tX, rfl, ha, ho, hb⟩
  replace HW := hid (HW.out.below hb)
  replace BW := hid (Below.next BW.out hb)
  have HX := hid ha; have FX := hid ho.free; have RX := hid ho.range
  have U23 := hid (show u2.heap.size ≤ u3.heap.size from hb.size)
  have WS3 := hid BW.out.size
  clear ha ho hb
  go_wp2_with fail
  refine (impl_MidPoints _ _ _ x0 _ _ HX.out).mono ?_
  rintro e u4 ⟨G1, nG, cG, tG, rfl, ha, ho, hb⟩
  replace HW := hid (HW.out.below hb)
  replace HX := hid (HX.out.below hb)
  replace FX := hid (FX.out.below hb)
  replace BW := hid (Below.next BW.out hb)
  have HG := hid ha; have FG := hid ho.free; have RG := hid ho.range
  clear ha ho hb
  go_wp2_with fail
  have C := laws_eqPointS _ _ _ _ _ _ (midsOf x0) (midsOf x0) _ _ _ HG.out HW.out
  rw [show decide (midsOf x0 = midsOf x0) = true by simp] at C
  refine C.mono ?_
  clear C
  rintro e u5 ⟨rfl, hb⟩
  replace HW := hid (HW.out.below hb)
  replace HX := hid (HX.out.below hb)
  replace FX := hid (FX.out.below hb)
  replace HG := hid (HG.out.below hb)
  replace FG := hid (FG.out.below hb)
  replace BW := hid (Below.next BW.out hb)
  clear hb
  go_wp2_with fail
  refine (laws_toPointS _ _ _ x0 _ _ (Sl.below H0.out BW.out) q0).mono ?_
  rintro e u6 ⟨Y0, nY0, cY0, tY, rfl, ha, ho, hb⟩
  replace HW := hid (HW.out.below hb)
  replace HX := hid (HX.out.below hb)
  replace FX := hid (FX.out.below hb)
  replace HG := hid (HG.out.below hb)
  replace FG := hid (FG.out.below hb)
  replace BW := hid (Below.next BW.out hb)
  have HY := hid ha
  clear ha ho hb
  go_wp2_with fail
  have C := laws_eqPointS _ _ _ _ _ _ x0 x0 _ _ _ HX.out HY.out
  rw [show decide (x0 = x0) = true by simp] at C
  refine C.mono ?_
  clear C
  rintro e u7 ⟨rfl, hb⟩
  replace HW := hid (HW.out.below hb)
  replace HX := hid (HX.out.below hb)
  replace FX := hid (FX.out.below hb)
  replace HG := hid (HG.out.below hb)
  replace FG := hid (FG.out.below hb)
  replace BW := hid (Below.next BW.out hb)
  clear hb HY
  go_wp2_with fail
  refine (laws_markPointS _ _ _ x0 _ 1 _ HX.out FX.out (by omega) (by omega) q0).mono ?_
  rintro e u8 ⟨rfl, _, _, ht⟩
  have hrn := pnx_pos x0
  replace HW := hid (HW.out.touch ht (fun b h h2 => by have := LW.out b h; have := RX.out b h2; omega))
  replace HG := hid (HG.out.touch ht (fun b h h2 => by have := RG.out b h; have := RX.out b h2; omega))
  replace FG := hid (FG.out.touch ht (fun b h h2 => by have := RG.out b h; have := RX.out b h2; omega))
  replace BW := hid (BW.out.touched ht BW.out.size (fun b h => by have := RX.out b h; have := WS2.out; omega))
  clear ht HX FX
  go_wp2_with fail
  have C := laws_eqPointS _ _ _ _ _ _ (midsOf x0) (midsOf x0) _ _ _ HG.out HW.out
  rw [show decide (midsOf x0 = midsOf x0) = true by simp] at C
  refine C.mono ?_
  clear C
  rintro e u9 ⟨rfl, hb⟩
  replace HW := hid (HW.out.below hb)
  replace HG := hid (HG.out.below hb)
  replace FG := hid (FG.out.below hb)
  replace BW := hid (Below.next BW.out hb)
  clear hb
  go_wp2_with fail
  refine (laws_markPointS _ _ _ (midsOf x0) _ 1 _ HG.out FG.out (by omega) (by omega) LO.out).mono ?_
  rintro e u10 ⟨rfl, hg1, hf, ht⟩
  replace HW := hid (HW.out.touch ht (fun b h h2 => by have := LW.out b h; have := RG.out b h2; have := U23.out; omega))
  replace BW := hid (BW.out.touched ht BW.out.size (fun b h => by have := RG.out b h; have := WS3.out; omega))
  clear HG FG
  have KG := hid hg1
  have hmn := pnx_pos (midsOf x0)
  clear ht hg1 hf
  go_wp2_with fail
  refine (laws_heldPointS _ _ _ (midsOf x0) _ 1 _ KG.out (by omega) (by omega) LO.out).mono ?_
  rintro e u11 ⟨rfl, hb⟩
  replace HW := hid (HW.out.below hb)
  replace KG := hid (KG.out.below hb)
  replace BW := hid (Below.next BW.out hb)
  clear hb
  go_wp2_with fail
  refine (laws_toPointS _ _ _ x0 _ _ (Sl.below H0.out BW.out) q0).mono ?_
  rintro e u12 ⟨Z0, nZ0, cZ0, tZ, rfl, ha, ho, hb⟩
  replace HW := hid (HW.out.below hb)
  replace KG := hid (KG.out.below hb)
  replace BW := hid (Below.next BW.out hb)
  have HZ := hid ha
  clear ha ho hb
  go_wp2_with fail
  refine (impl_MidPoints _ _ _ x0 _ _ HZ.out).mono ?_
  rintro e u13 ⟨E1, nE, cE, tH, rfl, ha, ho, hb⟩
  replace HW := hid (HW.out.below hb)
  replace KG := hid (KG.out.below hb)
  replace BW := hid (Below.next BW.out hb)
  have HE := hid ha
  clear ha ho hb HZ
  go_wp2_with fail
  have C := laws_eqPointS _ _ _ _ _ _ (midsOf x0) (midsOf x0) _ _ _ HE.out HW.out
  rw [show decide (midsOf x0 = midsOf x0) = true by simp] at C
  refine C.mono ?_
  clear C
  rintro e u14 ⟨rfl, hb⟩
  replace HW := hid (HW.out.below hb)
  replace KG := hid (KG.out.below hb)
  replace HE := hid (HE.out.below hb)
  replace BW := hid (Below.next BW.out hb)
  clear hb
  go_wp2_with fail
  refine (laws_heldPointS _ _ _ (midsOf x0) _ 1 _ KG.out (by omega) (by omega) LO.out).mono ?_
  rintro e u15 ⟨rfl, hb⟩
  replace HW := hid (HW.out.below hb)
  replace KG := hid (KG.out.below hb)
  replace HE := hid (HE.out.below hb)
  replace BW := hid (Below.next BW.out hb)
  clear hb
  go_wp2
  go_ret
  exact ⟨rfl, BW.out⟩

theorem own : ownKnob Tryz.prog.godebug = none := by kernel_rfl
theorem laidOut : laidOutB Tryz.prog = true := by kernel_rfl

set_option maxRecDepth 100000 in
theorem lifted (os : Os) (started : os.Started) (H : Type) (enc : TypeId × Value → H) :
    ReturnsInHanded {} Tryz.checked os 3 .any (Rows.fnExactMidPointsSpec.pre6 enc Tryz.prog Tryz.f3 Rows.fnExactMidPointsRow.domain false) (Rows.fnExactMidPointsSpec.post enc Tryz.prog Tryz.f3 false true false false) := by
  refine returnsInHanded_of_change (C := Tryz.checked) own started (by kernel_rfl) Tryz.func3
    (ChangeSpec.witness6 (enc := enc) (C := Tryz.checked) false ⟨#[], #[.slice none 0 0], []⟩ 8 (by kernel_rfl) (by kernel_rfl) (by kernel_rfl) (by kernel_rfl)) ?_
  intro W base args ds gs before hval0 hW hcnd _
  have hval : ∀ (j : Nat) t v, Tryz.f3.params[j]? = some t → args[j]? = some v → Value.okWide Tryz.prog W .any base t v := hval0
  have hW' := hW
  obtain ⟨p, q, hA0, hV, rfl, hfz, hnd⟩ := hW
  have hA : DataW.TrodAll enc Tryz.prog W 0 (fun _ => true) true Tryz.f3.params.toList args.toList ds p := hA0
  rw [Tryz.params3] at hA hval
  obtain ⟨v0, vs0, d0, ds0, p0, q0, hargs, rfl, rfl, h0, r0⟩ := trodAll_cons hA
  obtain ⟨rfl, rfl, rfl⟩ := trodAll_nil r0
  obtain rfl : args = #[v0] := by cases args; simp_all
  obtain ⟨rfl, rfl⟩ := trodVars_none hV
  clear hA0 hval0
  simp only [List.append_nil] at hW'
  obtain ⟨A0, n0, c0, x0, b0, rfl, g0⟩ := Opens.sl oLTPoint Tryz.underlying22 (hval 0 22 v0 rfl rfl) h0
  refine (walk _ _ _ x0 b0 W g0).mono fun e W' ⟨he, hB⟩ => ?_
  subst he
  have l0 : ∀ x ∈ p0, x.block < W.heap.size := fun x hx => hW'.lt x (by simp [hx])
  refine ⟨_, rfl, _, _, _, [], p0, [], hW', trodAll_cons_mk (shut_bool Tryz.underlying4 _) trodAll_mk0, ?_, rfl, hB.frame _, fun h => by cases h⟩
  have ha := trodAll_cons_mk (Below.trod laidOut (by kernel_rfl) (of_decide_eq_true (by kernel_rfl)) h0 hB l0) trodAll_mk0
  simp only [List.append_nil] at ha
  exact ha

theorem proved : Rows.FnExactMidPointsSaid :=
  OpenClaim.holds_of_wide 3 Tryz.f3 rfl rfl rfl rfl rfl rfl rfl ⟨rfl, rfl, rfl, rfl, rfl⟩ rfl rfl rfl rfl rfl (by kernel_rfl) Tryz.func3 (by kernel_rfl)
    (of_decide_eq_true (by kernel_rfl)) (by unfold Func.isWrapper; first | (rw [if_pos (by decide +kernel)]; kernel_rfl) | (rw [if_neg (by decide +kernel)]; exact ⟨rfl, rfl⟩))
    (fun os started H enc _ => lifted os started H enc)
#print axioms proved
end Go.Proofs.YthlpjpcnpcclhaaGreat.fnExactMidPoints
