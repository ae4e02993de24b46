/- FnExactGreatestOf: for every input, the program's GreatestOf returns what the reference's returns: the law returns true, and its argument reads as before. No condition. -/
import Derived.Test.YthlpjpcnpcclhaaPL
import Derived.Test.YthlpjpcnpcclhaaP2
import Derived.Test.YthlpjpcnpcclhaaXGreat
import Derived.WalkLawsBesides
import Derived.ProofKit
import Derived.OpenShut
namespace Go.Proofs.Ythlpjpcnpcclhaa.fnExactGreatestOf
open Go.ChangeShapes Go.WideShapes Go.ChangeAt Go.RowKit Go.XB Go.XN Go.Proofs.Ythlpjpcnpcclhaa.X
attribute [local go_sem] fillBy opAt deps depOf Region.wanted yielded
attribute [local simp] deps depOf MP.eq MP.agg MP.sl Facts
set_option linter.constructorNameAsVariable false

set_option maxHeartbeats 4000000 in
theorem walk (A0 : Option Addr) (n0 c0 : Nat) (x0 : List TRat) (b0 : List Nat) (w : World) (h0 : Sl w A0 n0 c0 x0 b0) :
    Calls Try.prog 6 #[.slice A0 n0 c0] w (Gives w (.bool true)) := by
  have H0 := hid h0
  have hm0 : n0 ≤ maxLen := Nat.le_trans h0.2.1 h0.2.2.1
  unfold maxLen at hm0
  clear h0
  have k0a : (0 : Int) ≤ 1048576 := by omega
  have m0 : (1048576 : Int) ≤ 1048576 := by omega
  rcases minus_cases 1048576 (cntL TRat.cnt x0) with ⟨k1, e1, l1⟩ | ⟨k1, e1, l1⟩
  · clear e1 l1
    go_enter Try.func6, Try.ntmps6
    go_wp2_with fail
    refine (laws_szRatS _ _ _ x0 _ 1048576 _ H0.out k0a m0).mono ?_
    rintro e us0 ⟨rfl, hbus0⟩
    go_wp2
    go_ret
    exact ⟨rfl, hbus0⟩
  have q0 : (cntL TRat.cnt x0) ≤ 1048576 := by omega
  have k1a : 0 ≤ (minus 1048576 (cntL TRat.cnt x0)) := k1
  have LX := hid (show x0.length ≤ 1048576 by have h := q0; unfold cntL at h; omega)
  clear e1 l1
  go_enter Try.func6, Try.ntmps6
  go_wp2_with fail
  refine (laws_szRatS _ _ _ x0 _ 1048576 _ H0.out k0a m0).mono ?_
  rintro e us0 ⟨rfl, hbus0⟩
  have BW := hid hbus0
  clear hbus0
  go_wp2_with fail
  refine (laws_toRatS _ _ _ x0 _ _ (Sl.below H0.out BW.out) q0).mono ?_
  rintro e u1 ⟨T1, nT1, cT1, tT1, rfl, ha, ho, hb⟩
  replace BW := hid (Below.next BW.out hb)
  have HT := hid ha
  clear ha ho hb
  go_wp2_with fail
  refine (spec_GreatestOf _ _ _ x0 _ _ HT.out (by rw [← HT.out.1]; exact LX.out)).mono ?_
  rintro e u2 ⟨rfl, hb⟩
  replace BW := hid (Below.next BW.out hb)
  clear hb HT
  go_wp2_with fail
  refine (laws_toRatS _ _ _ x0 _ _ (Sl.below H0.out BW.out) q0).mono ?_
  rintro e u3 ⟨X0, nX0, cX0, tX, rfl, ha, ho, hb⟩
  replace BW := hid (Below.next BW.out hb)
  have HX := hid ha
  clear ha ho hb
  go_wp2_with fail
  refine (impl_GreatestOf _ _ _ x0 _ _ HX.out (by rw [← HX.out.1]; exact LX.out)).mono ?_
  rintro e u4 ⟨rfl, hb⟩
  replace HX := hid (HX.out.below hb)
  replace BW := hid (Below.next BW.out hb)
  clear hb
  go_wp2_with fail
  refine (laws_toRatS _ _ _ x0 _ _ (Sl.below H0.out BW.out) q0).mono ?_
  rintro e u6 ⟨Y0, nY0, cY0, tY, rfl, ha, ho, hb⟩
  replace HX := hid (HX.out.below hb)
  replace BW := hid (Below.next BW.out hb)
  have HY := hid ha
  clear ha ho hb
  go_wp2_with fail
  have C := laws_eqRatS _ _ _ _ _ _ x0 x0 _ _ _ HX.out HY.out
  rw [show decide (x0 = x0) = true by simp] at C
  refine C.mono ?_
  clear C
  rintro e u7 ⟨rfl, hb⟩
  replace HX := hid (HX.out.below hb)
  replace BW := hid (Below.next BW.out hb)
  clear hb HY
  go_wp2
  go_ret
  exact ⟨rfl, BW.out⟩

theorem own : ownKnob Try.prog.godebug = none := by kernel_rfl
theorem laidOut : laidOutB Try.prog = true := by kernel_rfl

set_option maxRecDepth 100000 in
theorem lifted (os : Os) (started : os.Started) (H : Type) (enc : TypeId × Value → H) :
    ReturnsInHanded {} Try.checked os 6 .any (Rows.fnExactGreatestOfSpec.pre6 enc Try.prog Try.f6 Rows.fnExactGreatestOfRow.domain false) (Rows.fnExactGreatestOfSpec.post enc Try.prog Try.f6 false true false false) := by
  refine returnsInHanded_of_change (C := Try.checked) own started (by kernel_rfl) Try.func6
    (ChangeSpec.witness6 (enc := enc) (C := Try.checked) false ⟨#[], #[.slice none 0 0], []⟩ 8 (by kernel_rfl) (by kernel_rfl) (by kernel_rfl) (by kernel_rfl)) ?_
  intro W base args ds gs before hval0 hW hcnd _
  have hval : ∀ (j : Nat) t v, Try.f6.params[j]? = some t → args[j]? = some v → Value.okWide Try.prog W .any base t v := hval0
  have hW' := hW
  obtain ⟨p, q, hA0, hV, rfl, hfz, hnd⟩ := hW
  have hA : DataW.TrodAll enc Try.prog W 0 (fun _ => true) true Try.f6.params.toList args.toList ds p := hA0
  rw [Try.params6] at hA hval
  obtain ⟨v0, vs0, d0, ds0, p0, q0, hargs, rfl, rfl, h0, r0⟩ := trodAll_cons hA
  obtain ⟨rfl, rfl, rfl⟩ := trodAll_nil r0
  obtain rfl : args = #[v0] := by cases args; simp_all
  obtain ⟨rfl, rfl⟩ := trodVars_none hV
  clear hA0 hval0
  simp only [List.append_nil] at hW'
  obtain ⟨A0, n0, c0, x0, b0, rfl, g0⟩ := Opens.sl oLTRat Try.underlying22 (hval 0 22 v0 rfl rfl) h0
  refine (walk _ _ _ x0 b0 W g0).mono fun e W' ⟨he, hB⟩ => ?_
  subst he
  have l0 : ∀ x ∈ p0, x.block < W.heap.size := fun x hx => hW'.lt x (by simp [hx])
  refine ⟨_, rfl, _, _, _, [], p0, [], hW', trodAll_cons_mk (shut_bool Try.underlying4 _) trodAll_mk0, ?_, rfl, hB.frame _, fun h => by cases h⟩
  have ha := trodAll_cons_mk (Below.trod laidOut (by kernel_rfl) (of_decide_eq_true (by kernel_rfl)) h0 hB l0) trodAll_mk0
  simp only [List.append_nil] at ha
  exact ha

theorem proved : Rows.FnExactGreatestOfSaid :=
  OpenClaim.holds_of_wide 6 Try.f6 rfl rfl rfl rfl rfl rfl rfl ⟨rfl, rfl, rfl, rfl, rfl⟩ rfl rfl rfl rfl rfl (by kernel_rfl) Try.func6 (by kernel_rfl)
    (of_decide_eq_true (by kernel_rfl)) (by unfold Func.isWrapper; first | (rw [if_pos (by decide +kernel)]; kernel_rfl) | (rw [if_neg (by decide +kernel)]; exact ⟨rfl, rfl⟩))
    (fun os started H enc _ => lifted os started H enc)
#print axioms proved
end Go.Proofs.Ythlpjpcnpcclhaa.fnExactGreatestOf
