/- spec.SameState: true if and only if the two states are equal. No condition. -/
import Derived.Test.YtmhcfdipnofohaaXSameChains
import Derived.WalkLawsBesides
import Derived.ProofKit
namespace Go.Proofs.Ytmhcfdipnofohaa.X
open Go.RowKit Go.XB
attribute [local go_sem] fillBy opAt deps depOf Region.wanted yielded
attribute [local simp] deps depOf MP.eq Facts

set_option maxHeartbeats 4000000 in
theorem spec_SameState (v v' : Value) (x y : TState) (bs bs' : List Nat) (w : World) (hx : Agg w v x bs) (hy : Agg w v' y bs') :
    Calls Try.prog 14 #[v, v'] w (Gives w (.bool (decide (x = y)))) := by
  have aH := hid hx
  obtain ⟨aA0, an0, ac0, as0, aA1, an1, ac1, as1, aA2, an2, ac2, as2, aA3, an3, ac3, as3, aA5, an5, ac5, as5, aA6, an6, ac6, as6, aA7, an7, ac7, as7, rfl, rfl, aw0, aw1, aw2, aw3, aw5, aw6, aw7⟩ := TState.agg hx
  have aW0 := hid aw0
  have aW1 := hid aw1
  have aW2 := hid aw2
  have aW3 := hid aw3
  have aW5 := hid aw5
  have aW6 := hid aw6
  have aW7 := hid aw7
  clear aw0 aw1 aw2 aw3 aw5 aw6 aw7 hx
  have bH := hid hy
  obtain ⟨bA0, bn0, bc0, bs0, bA1, bn1, bc1, bs1, bA2, bn2, bc2, bs2, bA3, bn3, bc3, bs3, bA5, bn5, bc5, bs5, bA6, bn6, bc6, bs6, bA7, bn7, bc7, bs7, rfl, rfl, bw0, bw1, bw2, bw3, bw5, bw6, bw7⟩ := TState.agg hy
  have bW0 := hid bw0
  have bW1 := hid bw1
  have bW2 := hid bw2
  have bW3 := hid bw3
  have bW5 := hid bw5
  have bW6 := hid bw6
  have bW7 := hid bw7
  clear bw0 bw1 bw2 bw3 bw5 bw6 bw7 hy
  have ha7 : an7 ≤ maxLen := Nat.le_trans aW7.out.2.1 aW7.out.2.2.1
  have hb7 : bn7 ≤ maxLen := Nat.le_trans bW7.out.2.1 bW7.out.2.2.1
  unfold maxLen at ha7 hb7
  by_cases e0 : x.problem = y.problem
  rotate_left
  · have g0 : decide (x.problem = y.problem) = false := by simp [e0]
    have HNE := hid (show x ≠ y from fun e => e0 (by rw [e]))
    clear e0
    go_enter Try.func14, Try.ntmps14
    go_wp2_with fail
    refine (spec_SameProblem _ _ x.problem y.problem _ _ _ (TProblem.mkAgg (Sl.below aW0.out (by (repeat (first | (with_reducible exact Below.refl _ _) | ((with_reducible refine Below.set ?_ ?_ _); rotate_left; (simp <;> omega)) | (with_reducible refine Below.box_ ?_ _) | (with_reducible refine Below.next ?_ (by assumption)))))) (Sl.below aW1.out (by (repeat (first | (with_reducible exact Below.refl _ _) | ((with_reducible refine Below.set ?_ ?_ _); rotate_left; (simp <;> omega)) | (with_reducible refine Below.box_ ?_ _) | (with_reducible refine Below.next ?_ (by assumption)))))) (Sl.below aW2.out (by (repeat (first | (with_reducible exact Below.refl _ _) | ((with_reducible refine Below.set ?_ ?_ _); rotate_left; (simp <;> omega)) | (with_reducible refine Below.box_ ?_ _) | (with_reducible refine Below.next ?_ (by assumption)))))) (Sl.below aW3.out (by (repeat (first | (with_reducible exact Below.refl _ _) | ((with_reducible refine Below.set ?_ ?_ _); rotate_left; (simp <;> omega)) | (with_reducible refine Below.box_ ?_ _) | (with_reducible refine Below.next ?_ (by assumption))))))) (TProblem.mkAgg (Sl.below bW0.out (by (repeat (first | (with_reducible exact Below.refl _ _) | ((with_reducible refine Below.set ?_ ?_ _); rotate_left; (simp <;> omega)) | (with_reducible refine Below.box_ ?_ _) | (with_reducible refine Below.next ?_ (by assumption)))))) (Sl.below bW1.out (by (repeat (first | (with_reducible exact Below.refl _ _) | ((with_reducible refine Below.set ?_ ?_ _); rotate_left; (simp <;> omega)) | (with_reducible refine Below.box_ ?_ _) | (with_reducible refine Below.next ?_ (by assumption)))))) (Sl.below bW2.out (by (repeat (first | (with_reducible exact Below.refl _ _) | ((with_reducible refine Below.set ?_ ?_ _); rotate_left; (simp <;> omega)) | (with_reducible refine Below.box_ ?_ _) | (with_reducible refine Below.next ?_ (by assumption)))))) (Sl.below bW3.out (by (repeat (first | (with_reducible exact Below.refl _ _) | ((with_reducible refine Below.set ?_ ?_ _); rotate_left; (simp <;> omega)) | (with_reducible refine Below.box_ ?_ _) | (with_reducible refine Below.next ?_ (by assumption)))))))).mono ?_
    rintro e u ⟨rfl, hbu⟩
    go_wp2
    go_ret
    exact ⟨ret_bool (by simp [HNE.out]), by (repeat (first | (with_reducible exact Below.refl _ _) | ((with_reducible refine Below.set ?_ ?_ _); rotate_left; (simp <;> omega)) | (with_reducible refine Below.box_ ?_ _) | (with_reducible refine Below.next ?_ (by assumption))))⟩
  have g0 : decide (x.problem = y.problem) = true := by simp [e0]
  have E0 := hid e0
  clear e0
  by_cases e1 : x.part = y.part
  rotate_left
  · have g1 : decide (x.part = y.part) = false := by simp [e1]
    have HNE := hid (show x ≠ y from fun e => e1 (by rw [e]))
    clear e1
    go_enter Try.func14, Try.ntmps14
    go_wp2_with fail
    refine (spec_SameProblem _ _ x.problem y.problem _ _ _ (TProblem.mkAgg (Sl.below aW0.out (by (repeat (first | (with_reducible exact Below.refl _ _) | ((with_reducible refine Below.set ?_ ?_ _); rotate_left; (simp <;> omega)) | (with_reducible refine Below.box_ ?_ _) | (with_reducible refine Below.next ?_ (by assumption)))))) (Sl.below aW1.out (by (repeat (first | (with_reducible exact Below.refl _ _) | ((with_reducible refine Below.set ?_ ?_ _); rotate_left; (simp <;> omega)) | (with_reducible refine Below.box_ ?_ _) | (with_reducible refine Below.next ?_ (by assumption)))))) (Sl.below aW2.out (by (repeat (first | (with_reducible exact Below.refl _ _) | ((with_reducible refine Below.set ?_ ?_ _); rotate_left; (simp <;> omega)) | (with_reducible refine Below.box_ ?_ _) | (with_reducible refine Below.next ?_ (by assumption)))))) (Sl.below aW3.out (by (repeat (first | (with_reducible exact Below.refl _ _) | ((with_reducible refine Below.set ?_ ?_ _); rotate_left; (simp <;> omega)) | (with_reducible refine Below.box_ ?_ _) | (with_reducible refine Below.next ?_ (by assumption))))))) (TProblem.mkAgg (Sl.below bW0.out (by (repeat (first | (with_reducible exact Below.refl _ _) | ((with_reducible refine Below.set ?_ ?_ _); rotate_left; (simp <;> omega)) | (with_reducible refine Below.box_ ?_ _) | (with_reducible refine Below.next ?_ (by assumption)))))) (Sl.below bW1.out (by (repeat (first | (with_reducible exact Below.refl _ _) | ((with_reducible refine Below.set ?_ ?_ _); rotate_left; (simp <;> omega)) | (with_reducible refine Below.box_ ?_ _) | (with_reducible refine Below.next ?_ (by assumption)))))) (Sl.below bW2.out (by (repeat (first | (with_reducible exact Below.refl _ _) | ((with_reducible refine Below.set ?_ ?_ _); rotate_left; (simp <;> omega)) | (with_reducible refine Below.box_ ?_ _) | (with_reducible refine Below.next ?_ (by assumption)))))) (Sl.below bW3.out (by (repeat (first | (with_reducible exact Below.refl _ _) | ((with_reducible refine Below.set ?_ ?_ _); rotate_left; (simp <;> omega)) | (with_reducible refine Below.box_ ?_ _) | (with_reducible refine Below.next ?_ (by assumption)))))))).mono ?_
    rintro e u ⟨rfl, hbu⟩
    obtain ⟨hcu, hfu⟩ := bcell hbu
    have hzu : w.heap.size < u.heap.size ∧ w.heap.size + 1 < u.heap.size := by have := hbu.size; (try simp at this); omega
    obtain ⟨hzu1, hzu2⟩ := hzu
    go_wp2_with fail
    refine (spec_RatEqual _ _ x.part y.part _ _ _ (TRat.mkAgg (Sl.below aW5.out (by (repeat (first | (with_reducible exact Below.refl _ _) | ((with_reducible refine Below.set ?_ ?_ _); rotate_left; (simp <;> omega)) | (with_reducible refine Below.box_ ?_ _) | (with_reducible refine Below.next ?_ (by assumption)))))) (Sl.below aW6.out (by (repeat (first | (with_reducible exact Below.refl _ _) | ((with_reducible refine Below.set ?_ ?_ _); rotate_left; (simp <;> omega)) | (with_reducible refine Below.box_ ?_ _) | (with_reducible refine Below.next ?_ (by assumption))))))) (TRat.mkAgg (Sl.below bW5.out (by (repeat (first | (with_reducible exact Below.refl _ _) | ((with_reducible refine Below.set ?_ ?_ _); rotate_left; (simp <;> omega)) | (with_reducible refine Below.box_ ?_ _) | (with_reducible refine Below.next ?_ (by assumption)))))) (Sl.below bW6.out (by (repeat (first | (with_reducible exact Below.refl _ _) | ((with_reducible refine Below.set ?_ ?_ _); rotate_left; (simp <;> omega)) | (with_reducible refine Below.box_ ?_ _) | (with_reducible refine Below.next ?_ (by assumption)))))))).mono ?_
    rintro e u2 ⟨rfl, hbu2⟩
    go_wp2
    go_ret
    exact ⟨ret_bool (by simp [HNE.out]), by (repeat (first | (with_reducible exact Below.refl _ _) | ((with_reducible refine Below.set ?_ ?_ _); rotate_left; (simp <;> omega)) | (with_reducible refine Below.box_ ?_ _) | (with_reducible refine Below.next ?_ (by assumption))))⟩
  have g1 : decide (x.part = y.part) = true := by simp [e1]
  have E1 := hid e1
  clear e1
  by_cases e2 : an7 = bn7
  rotate_left
  · have g2 : ((an7 : Int) != bn7) = true := by simp; omega
    have HNE := hid (show x ≠ y from fun e => e2 (by rw [← aW7.out.1, ← bW7.out.1, e]))
    clear e2
    go_enter Try.func14, Try.ntmps14
    go_wp2_with fail
    refine (spec_SameProblem _ _ x.problem y.problem _ _ _ (TProblem.mkAgg (Sl.below aW0.out (by (repeat (first | (with_reducible exact Below.refl _ _) | ((with_reducible refine Below.set ?_ ?_ _); rotate_left; (simp <;> omega)) | (with_reducible refine Below.box_ ?_ _) | (with_reducible refine Below.next ?_ (by assumption)))))) (Sl.below aW1.out (by (repeat (first | (with_reducible exact Below.refl _ _) | ((with_reducible refine Below.set ?_ ?_ _); rotate_left; (simp <;> omega)) | (with_reducible refine Below.box_ ?_ _) | (with_reducible refine Below.next ?_ (by assumption)))))) (Sl.below aW2.out (by (repeat (first | (with_reducible exact Below.refl _ _) | ((with_reducible refine Below.set ?_ ?_ _); rotate_left; (simp <;> omega)) | (with_reducible refine Below.box_ ?_ _) | (with_reducible refine Below.next ?_ (by assumption)))))) (Sl.below aW3.out (by (repeat (first | (with_reducible exact Below.refl _ _) | ((with_reducible refine Below.set ?_ ?_ _); rotate_left; (simp <;> omega)) | (with_reducible refine Below.box_ ?_ _) | (with_reducible refine Below.next ?_ (by assumption))))))) (TProblem.mkAgg (Sl.below bW0.out (by (repeat (first | (with_reducible exact Below.refl _ _) | ((with_reducible refine Below.set ?_ ?_ _); rotate_left; (simp <;> omega)) | (with_reducible refine Below.box_ ?_ _) | (with_reducible refine Below.next ?_ (by assumption)))))) (Sl.below bW1.out (by (repeat (first | (with_reducible exact Below.refl _ _) | ((with_reducible refine Below.set ?_ ?_ _); rotate_left; (simp <;> omega)) | (with_reducible refine Below.box_ ?_ _) | (with_reducible refine Below.next ?_ (by assumption)))))) (Sl.below bW2.out (by (repeat (first | (with_reducible exact Below.refl _ _) | ((with_reducible refine Below.set ?_ ?_ _); rotate_left; (simp <;> omega)) | (with_reducible refine Below.box_ ?_ _) | (with_reducible refine Below.next ?_ (by assumption)))))) (Sl.below bW3.out (by (repeat (first | (with_reducible exact Below.refl _ _) | ((with_reducible refine Below.set ?_ ?_ _); rotate_left; (simp <;> omega)) | (with_reducible refine Below.box_ ?_ _) | (with_reducible refine Below.next ?_ (by assumption)))))))).mono ?_
    rintro e u ⟨rfl, hbu⟩
    obtain ⟨hcu, hfu⟩ := bcell hbu
    have hzu : w.heap.size < u.heap.size ∧ w.heap.size + 1 < u.heap.size := by have := hbu.size; (try simp at this); omega
    obtain ⟨hzu1, hzu2⟩ := hzu
    go_wp2_with fail
    refine (spec_RatEqual _ _ x.part y.part _ _ _ (TRat.mkAgg (Sl.below aW5.out (by (repeat (first | (with_reducible exact Below.refl _ _) | ((with_reducible refine Below.set ?_ ?_ _); rotate_left; (simp <;> omega)) | (with_reducible refine Below.box_ ?_ _) | (with_reducible refine Below.next ?_ (by assumption)))))) (Sl.below aW6.out (by (repeat (first | (with_reducible exact Below.refl _ _) | ((with_reducible refine Below.set ?_ ?_ _); rotate_left; (simp <;> omega)) | (with_reducible refine Below.box_ ?_ _) | (with_reducible refine Below.next ?_ (by assumption))))))) (TRat.mkAgg (Sl.below bW5.out (by (repeat (first | (with_reducible exact Below.refl _ _) | ((with_reducible refine Below.set ?_ ?_ _); rotate_left; (simp <;> omega)) | (with_reducible refine Below.box_ ?_ _) | (with_reducible refine Below.next ?_ (by assumption)))))) (Sl.below bW6.out (by (repeat (first | (with_reducible exact Below.refl _ _) | ((with_reducible refine Below.set ?_ ?_ _); rotate_left; (simp <;> omega)) | (with_reducible refine Below.box_ ?_ _) | (with_reducible refine Below.next ?_ (by assumption)))))))).mono ?_
    rintro e u2 ⟨rfl, hbu2⟩
    obtain ⟨hcu2, hfu2⟩ := bcell hbu2
    have hzv : w.heap.size < u2.heap.size ∧ w.heap.size + 1 < u2.heap.size := by have := hbu2.size; omega
    obtain ⟨hzv1, hzv2⟩ := hzv
    go_wp2
    go_ret
    exact ⟨ret_bool (by simp [HNE.out]), by (repeat (first | (with_reducible exact Below.refl _ _) | ((with_reducible refine Below.set ?_ ?_ _); rotate_left; (simp <;> omega)) | (with_reducible refine Below.box_ ?_ _) | (with_reducible refine Below.next ?_ (by assumption))))⟩
  subst e2
  go_enter Try.func14, Try.ntmps14
  go_wp2_with fail
  refine (spec_SameProblem _ _ x.problem y.problem _ _ _ (TProblem.mkAgg (Sl.below aW0.out (by (repeat (first | (with_reducible exact Below.refl _ _) | ((with_reducible refine Below.set ?_ ?_ _); rotate_left; (simp <;> omega)) | (with_reducible refine Below.box_ ?_ _) | (with_reducible refine Below.next ?_ (by assumption)))))) (Sl.below aW1.out (by (repeat (first | (with_reducible exact Below.refl _ _) | ((with_reducible refine Below.set ?_ ?_ _); rotate_left; (simp <;> omega)) | (with_reducible refine Below.box_ ?_ _) | (with_reducible refine Below.next ?_ (by assumption)))))) (Sl.below aW2.out (by (repeat (first | (with_reducible exact Below.refl _ _) | ((with_reducible refine Below.set ?_ ?_ _); rotate_left; (simp <;> omega)) | (with_reducible refine Below.box_ ?_ _) | (with_reducible refine Below.next ?_ (by assumption)))))) (Sl.below aW3.out (by (repeat (first | (with_reducible exact Below.refl _ _) | ((with_reducible refine Below.set ?_ ?_ _); rotate_left; (simp <;> omega)) | (with_reducible refine Below.box_ ?_ _) | (with_reducible refine Below.next ?_ (by assumption))))))) (TProblem.mkAgg (Sl.below bW0.out (by (repeat (first | (with_reducible exact Below.refl _ _) | ((with_reducible refine Below.set ?_ ?_ _); rotate_left; (simp <;> omega)) | (with_reducible refine Below.box_ ?_ _) | (with_reducible refine Below.next ?_ (by assumption)))))) (Sl.below bW1.out (by (repeat (first | (with_reducible exact Below.refl _ _) | ((with_reducible refine Below.set ?_ ?_ _); rotate_left; (simp <;> omega)) | (with_reducible refine Below.box_ ?_ _) | (with_reducible refine Below.next ?_ (by assumption)))))) (Sl.below bW2.out (by (repeat (first | (with_reducible exact Below.refl _ _) | ((with_reducible refine Below.set ?_ ?_ _); rotate_left; (simp <;> omega)) | (with_reducible refine Below.box_ ?_ _) | (with_reducible refine Below.next ?_ (by assumption)))))) (Sl.below bW3.out (by (repeat (first | (with_reducible exact Below.refl _ _) | ((with_reducible refine Below.set ?_ ?_ _); rotate_left; (simp <;> omega)) | (with_reducible refine Below.box_ ?_ _) | (with_reducible refine Below.next ?_ (by assumption)))))))).mono ?_
  rintro e u ⟨rfl, hbu⟩
  obtain ⟨hcu, hfu⟩ := bcell hbu
  have hzu : w.heap.size < u.heap.size ∧ w.heap.size + 1 < u.heap.size := by have := hbu.size; (try simp at this); omega
  obtain ⟨hzu1, hzu2⟩ := hzu
  go_wp2_with fail
  refine (spec_RatEqual _ _ x.part y.part _ _ _ (TRat.mkAgg (Sl.below aW5.out (by (repeat (first | (with_reducible exact Below.refl _ _) | ((with_reducible refine Below.set ?_ ?_ _); rotate_left; (simp <;> omega)) | (with_reducible refine Below.box_ ?_ _) | (with_reducible refine Below.next ?_ (by assumption)))))) (Sl.below aW6.out (by (repeat (first | (with_reducible exact Below.refl _ _) | ((with_reducible refine Below.set ?_ ?_ _); rotate_left; (simp <;> omega)) | (with_reducible refine Below.box_ ?_ _) | (with_reducible refine Below.next ?_ (by assumption))))))) (TRat.mkAgg (Sl.below bW5.out (by (repeat (first | (with_reducible exact Below.refl _ _) | ((with_reducible refine Below.set ?_ ?_ _); rotate_left; (simp <;> omega)) | (with_reducible refine Below.box_ ?_ _) | (with_reducible refine Below.next ?_ (by assumption)))))) (Sl.below bW6.out (by (repeat (first | (with_reducible exact Below.refl _ _) | ((with_reducible refine Below.set ?_ ?_ _); rotate_left; (simp <;> omega)) | (with_reducible refine Below.box_ ?_ _) | (with_reducible refine Below.next ?_ (by assumption)))))))).mono ?_
  rintro e u2 ⟨rfl, hbu2⟩
  obtain ⟨hcu2, hfu2⟩ := bcell hbu2
  have hzv : w.heap.size < u2.heap.size ∧ w.heap.size + 1 < u2.heap.size := by have := hbu2.size; omega
  obtain ⟨hzv1, hzv2⟩ := hzv
  have hB2 : Below w.heap.size w u2 := by (repeat (first | (with_reducible exact Below.refl _ _) | ((with_reducible refine Below.set ?_ ?_ _); rotate_left; (simp <;> omega)) | (with_reducible refine Below.box_ ?_ _) | (with_reducible refine Below.next ?_ (by assumption))))
  have c3 : u2.cell? ⟨w.heap.size + 1, 7, none⟩ = some (.slice bA7 an7 bc7) := by go_simp
  go_wp2
  go_loopw [33] (fun i wr => ∃ k : Nat, k ≤ an7 ∧ i = .int .i64 k ∧ Hid (x.reports.take k = y.reports.take k) ∧ Below u2.heap.size u2 wr) (fun i wr => an7 - (intOf i).toNat)
  case atStart => exact ⟨0, Nat.zero_le _, rfl, rfl, Below.refl _ _⟩
  case round =>
    obtain ⟨k, hk, rfl, ht, hb⟩ := hrel
    have hbw : Below w.heap.size w wr := Below.next hB2 hb
    by_cases hlt : k < an7
    · have r1 : k + 1 ≤ an7 := by omega
      have hs1 : w.heap.size + 1 < wr.heap.size := Nat.lt_of_lt_of_le hzv2 hb.size
      have hs0 : w.heap.size < wr.heap.size := by omega
      have d3 := (hb.cell (p := ⟨w.heap.size + 1, 7, none⟩) hzv2).trans c3
      clear c3
      obtain ⟨eb, eoff, p, eA2, en2, ec2, es2, eA3, en3, ec3, es3, eA5, en5, ec5, es5, eA6, en6, ec6, es6, rfl, ehbl, ehx, ee0, ee1, ee2, ee3, ee4, ee5, ee6, ehag⟩ := TReport.elemA (Sl.below aW7.out hbw) hlt
      have eHX := hid ehx; have eHA := hid ehag
      clear ehx ehag
      obtain ⟨fb, foff, q, fA2, fn2, fc2, fs2, fA3, fn3, fc3, fs3, fA5, fn5, fc5, fs5, fA6, fn6, fc6, fs6, rfl, fhbl, fhx, fe0, fe1, fe2, fe3, fe4, fe5, fe6, fhag⟩ := TReport.elemA (Sl.below bW7.out hbw) hlt
      have fHX := hid fhx; have fHA := hid fhag
      clear fhx fhag
      have hi1 : (0 : Int) ≤ k := by omega
      have hi2 : (k : Int) < an7 := by omega
      go_wp2
      refine wp_region_walk (by kernel_rfl) (by kernel_rfl) (by kernel_rfl) ?_
      iterate 6
        apply walkM_eq
        case h =>
          intro yq zq wq hC hd
          obtain ⟨hcq, hfq⟩ := bcell hC
          simp at hd
          refine ⟨by go_simp; done, ?_⟩
          go_simp
          exact rfl
      refine walkM_call (MP.eq (.bool (decide (p = q)))) ?_ ?_
      · intro yq zq wq hC hd
        obtain ⟨hcq, hfq⟩ := bcell hC
        simp at hd
        refine ⟨by go_simp; done, ?_⟩
        apply Exists.intro
        apply Exists.intro
        constructor
        · go_simp
          exact ⟨rfl, rfl⟩
        · exact gives_eq (spec_SameReport _ _ p q _ _ _ (Agg.below eHA.out (by (repeat (first | (with_reducible exact Below.refl _ _) | ((with_reducible refine Below.set ?_ ?_ _); rotate_left; (simp <;> omega)) | (with_reducible refine Below.box_ ?_ _) | (with_reducible refine Below.next ?_ (by assumption)))))) (Agg.below fHA.out (by (repeat (first | (with_reducible exact Below.refl _ _) | ((with_reducible refine Below.set ?_ ?_ _); rotate_left; (simp <;> omega)) | (with_reducible refine Below.box_ ?_ _) | (with_reducible refine Below.next ?_ (by assumption)))))))
      apply walkM_eq
      case h =>
        intro yq zq wq hC hd
        obtain ⟨hcq, hfq⟩ := bcell hC
        simp at hd
        refine ⟨by go_simp; done, ?_⟩
        go_simp
        exact rfl
      intro yq zq wq hC hd hdis0
      have hdis := hid hdis0
      clear hdis0
      simp at hd
      have r5 : Below wr.heap.size wr wq := by (repeat (first | (with_reducible exact Below.refl _ _) | ((with_reducible refine Below.set ?_ ?_ _); rotate_left; (simp <;> omega)) | (with_reducible refine Below.box_ ?_ _) | (with_reducible refine Below.next ?_ (by assumption))))
      have r4 : Below u2.heap.size u2 wq := Below.next hb r5
      by_cases hxy : p = q
      · have hbb : decide (p = q) = true := by simp [hxy]
        have r3 := hid (take_eq_step eHX.out fHX.out ht.out hxy)
        clear hxy
        go_simp
        go_wp2
        first
        | exact ⟨⟨k + 1, r1, num_succ k, r3, r4⟩, meas_succ hlt⟩
        | exact ⟨by (repeat apply Exists.intro); exact ⟨⟨k + 1, r1, num_succ k, r3, r4⟩, rfl⟩, meas_succ hlt⟩
      · have hbb : decide (p = q) = false := by simp [hxy]
        have HN := hid (ne_at eHX.out fHX.out hxy)
        clear hxy
        go_simp
        go_wp2
        go_ret
        exact ⟨ret_bool (by have : x ≠ y := fun e => HN.out (by rw [e]); simp [this]), Below.next hB2 r4⟩
    · have htr := hid (take_all_eq aW7.out.1 bW7.out.1 (by omega) ht.out)
      go_wp2
      go_ret
      exact ⟨ret_bool (by simp [ext_TState E0.out E1.out htr.out]), hbw⟩
end Go.Proofs.Ytmhcfdipnofohaa.X
