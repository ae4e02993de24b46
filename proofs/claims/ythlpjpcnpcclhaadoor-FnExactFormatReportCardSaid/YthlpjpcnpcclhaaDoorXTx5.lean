/- FormatInt of the reference, every int. -/
import Derived.Test.YthlpjpcnpcclhaaDoorXTx1
import Derived.Test.YthlpjpcnpcclhaaDoorP2
namespace Go.XB
open Go.RowKit
/-- a new row of one byte -/
def MP.one (x : Int) (t : TypeId) : MP := ⟨fun v bs w => ∃ g, v = .slice (some ⟨g, 0, none⟩) 1 1 ∧ bs = [g] ∧ w.heap[g]? = some (.cells #[.int .u8 x] t), fun v bs w w' hb h => by
  obtain ⟨g, e, hz, hg⟩ := h; exact ⟨g, e, hz, (hb.block g (lt_of_get hg)).trans hg⟩⟩
section
variable {P : Program} {l : List Oper} {a0 : Act}
theorem walkM_one {w0 : World} {F : List DP → Prop} {o : Oper} {os : List Oper} {acc : List DP} (x : Int) (t : TypeId)
    (h : ∀ (y : Nat → Value) (z : Nat → List Nat) (w : World), Below w0.heap.size w0 w → (∀ k ∈ deps o, (acc.getD k (fun _ => MP.eq undef) y).p (y k) (z k) w) →
      Region.wanted o (yielded l.toArray (fillBy l y a0 (deps o)).tmps) = true ∧ (execOp (fillBy l y a0 (deps o)).eval o).run P w = .ok (.value (.slice (some ⟨w.heap.size, 0, none⟩) 1 1)) (w.alloc (.cells #[.int .u8 x] t)))
    (hr : walkM P l w0 a0 F os (acc ++ [fun _ => MP.one x t])) : walkM P l w0 a0 F (o :: os) acc := by
  refine ⟨fun _ => MP.one x t, Cong.const _ _, fun y z w hC hd => ?_, hr⟩
  obtain ⟨h1, h2⟩ := h y z w hC hd
  rw [if_pos h1]
  unfold gives
  rw [h2]
  refine ⟨(Below.refl _ _).alloc (Nat.le_refl _) _, [w.heap.size], ⟨w.heap.size, rfl, rfl, by show (w.heap.push _)[w.heap.size]? = _; simp⟩, fun b hb => ?_⟩
  simp at hb; subst hb; simp
end
end Go.XB
namespace Go.Proofs.YthlpjpcnpcclhaaDoor.X
open Go.RowKit Go.XB Go.XN
attribute [local go_sem] fillBy opAt deps depOf Region.wanted yielded conv_one str_app str_app_nil
attribute [local simp] deps depOf MP.eq MP.agg MP.sl MP.one Facts
set_option linter.constructorNameAsVariable false

theorem conv_at {W : World} {g : Nat} {x : Int} (h : W.heap[g]? = some (.cells #[.int .u8 x] 5)) : (convert 68 9 (.slice (some ⟨g, 0, none⟩) 1 1)).run Tryd.prog W = .ok (.string ⟨[UInt8.ofNat x.toNat].toArray⟩) W :=
  run_convert_bytes_arg W 68 5 Tryd.underlying68 Tryd.underlying5 g 0 1 1 [x] rfl (fun i hi => by
    obtain rfl : i = 0 := by omega
    exact (box_cell h rfl).1) 9 Tryd.underlying9

set_option maxHeartbeats 1000000 in
set_option maxRecDepth 10000 in
theorem spec_FormatNeg : ∀ (f m : Nat), m ≤ f → 0 < m → m ≤ 9223372036854775808 → ∀ w : World,
    Calls Tryd.prog 22 #[.int .i64 (-(m : Int))] w (Gives w (.string ⟨(45 :: Lib.decDigits m).toArray⟩))
  | 0, m, h, h0, _, _ => by omega
  | f + 1, m, h, h0, hm, w => by
    have hneg : -(m : Int) < 0 := by omega
    have hq : Int.tdiv (-(m : Int)) 10 = -((m / 10 : Nat) : Int) := by rw [Int.neg_tdiv, Int.tdiv_eq_ediv_of_nonneg (by omega)]; omega
    have hr : Int.tmod (-(m : Int)) 10 = -((m % 10 : Nat) : Int) := by rw [Int.neg_tmod, Int.tmod_eq_emod_of_nonneg (by omega)]; omega
    by_cases h9 : m ≤ 9
    · go_enter Tryd.func22, Tryd.ntmps22
      go_wp2_with fail
      refine bodyPost_ret (results_tmp rfl _ _ _) rfl ⟨?_, Below.box _⟩
      rw [Lib.decDigits_one (by omega)]
      simp
    · have hl : (Lib.decDigits (m / 10)).length ≤ 19 := dec_len 18 (by omega)
      have IH : ∀ w : World, Calls Tryd.prog 22 #[.int .i64 (-((m : Int) / 10))] w (Gives w (.string ⟨(45 :: Lib.decDigits (m / 10)).toArray⟩)) := spec_FormatNeg f (m / 10) (by omega) (by omega) (by omega)
      have E := hid (show (45 :: Lib.decDigits (m / 10)) ++ [UInt8.ofNat (48 + m % 10)] = 45 :: Lib.decDigits m by rw [dec_step (m := m) (by omega)]; rfl)
      have HIH := hid IH
      clear IH
      go_enter Tryd.func22, Tryd.ntmps22
      go_wp2_with fail
      refine wp_region_last (by simp) (by kernel_rfl) (by kernel_rfl) (by kernel_rfl) (by kernel_rfl) ?_
      dsimp only [List.dropLast, List.getLast, List.length]
      iterate 2
        apply walkM_eq
        case h =>
          intro yq zq wq hC hd
          obtain ⟨hcq, hfq⟩ := bcell hC
          simp at hd
          refine ⟨by go_simp; done, ?_⟩
          go_simp
          first | (go_ints; exact rfl) | (go_ints; rw [if_pos (by omega)]; try exact rfl) | exact rfl | (rw [if_pos (by omega)]; try exact rfl)
      refine walkM_call (MP.eq (.string ⟨(45 :: Lib.decDigits (m / 10)).toArray⟩)) ?_ ?_
      · intro yq zq wq hC hd
        obtain ⟨hcq, hfq⟩ := bcell hC
        simp at hd
        refine ⟨by go_simp; done, ?_⟩
        apply Exists.intro
        apply Exists.intro
        constructor
        · go_simp
          exact ⟨rfl, rfl⟩
        · refine (HIH.out wq).mono ?_
          rintro e w' ⟨rfl, hb⟩
          exact ⟨_, rfl, hb, [], ⟨rfl, rfl⟩, fun b hb => by simp at hb⟩
      iterate 4
        apply walkM_eq
        case h =>
          intro yq zq wq hC hd
          obtain ⟨hcq, hfq⟩ := bcell hC
          simp at hd
          refine ⟨by go_simp; done, ?_⟩
          go_simp
          first | (go_ints; exact rfl) | (go_ints; rw [if_pos (by omega)]; try exact rfl) | exact rfl | (rw [if_pos (by omega)]; try exact rfl)
      refine walkM_one (48 + (m : Int) % 10) 5 ?_ ?_
      · intro yq zq wq hC hd
        simp at hd
        refine ⟨by go_simp; done, ?_⟩
        go_simp
      refine walkM_eq (.string ⟨[UInt8.ofNat (48 + m % 10)].toArray⟩) ?_ ?_
      · intro yq zq wq hC hd
        simp at hd
        obtain ⟨g, e, _, hg⟩ := hd
        refine ⟨by go_simp; done, ?_⟩
        go_simp
        rw [conv_at hg, show (48 + (m : Int) % 10).toNat = 48 + m % 10 by omega]
        simp [Result.andThen]
      refine walkM_eq (.string ⟨((45 :: Lib.decDigits (m / 10)) ++ [UInt8.ofNat (48 + m % 10)]).toArray⟩) ?_ ?_
      · intro yq zq wq hC hd
        obtain ⟨hcq, hfq⟩ := bcell hC
        simp at hd
        refine ⟨by go_simp; done, ?_⟩
        go_simp
        omega
      intro yq zq wa hC hd hdis0
      have hdis := hid hdis0
      clear hdis0
      simp at hd
      go_simp
      go_wp2
      refine bodyPost_ret (results_tmp rfl _ _ _) rfl ⟨?_, by (repeat (first | (with_reducible exact Below.refl _ _) | ((with_reducible refine Below.set ?_ ?_ _); rotate_left; (simp <;> omega)) | (with_reducible refine Below.box_ ?_ _) | (with_reducible refine Below.next ?_ (by assumption))))⟩
      rw [← E.out]
      simp

theorem spec_FormatInt_all (n : Int) (h0 : -9223372036854775808 ≤ n) (h1 : n ≤ 9223372036854775807) (w : World) :
    Calls Tryd.prog 22 #[.int .i64 n] w (Gives w (.string ⟨(Lib.itoa n).toArray⟩)) := by
  by_cases hn : n < 0
  · have := spec_FormatNeg n.natAbs n.natAbs (Nat.le_refl _) (by omega) (by omega) w
    rw [show -((n.natAbs : Nat) : Int) = n by omega] at this
    unfold Lib.itoa
    rw [if_pos hn]; exact this
  · have := spec_FormatInt n.toNat (by omega) w
    rw [show ((n.toNat : Nat) : Int) = n by omega] at this
    unfold Lib.itoa
    rw [if_neg hn]; exact this
theorem itoa_len {n : Int} (h0 : -9223372036854775808 ≤ n) (h1 : n ≤ 9223372036854775807) : (Lib.itoa n).length ≤ 20 := by
  unfold Lib.itoa
  split
  · have := dec_len (u := n.natAbs) 18 (by omega)
    simp; omega
  · have := dec_len (u := n.toNat) 18 (by omega)
    omega
end Go.Proofs.YthlpjpcnpcclhaaDoor.X
