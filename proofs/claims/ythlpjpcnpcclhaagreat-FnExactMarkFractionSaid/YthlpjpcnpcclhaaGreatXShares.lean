/- Shares and parts: isPart, areShares of the program; l25Ok of the reference. -/
import Derived.Test.YthlpjpcnpcclhaaGreatXRange
namespace Go.XN
open Go.XB
def partB (p : TRat) : Bool := ratOkB p && (decide (0 ≤ rsignV p) && decide (rcmpV p (rint 1) ≤ 0))
def sharesB (xs : List TRat) (p : TRat) : Bool := xs.all ratOkB && (partB p && !xs.any (fun r => decide (rsignV r < 0)))
/-- what the reference rejects -/
def shareBad (r : TRat) : Bool := !ratOkB r || decide (rsign r < 0)
theorem shares_eq (xs : List TRat) (p : TRat) : sharesB xs p = (!xs.any shareBad && partB p) := by
  unfold sharesB
  have e : xs.any shareBad = (!xs.all ratOkB || xs.any (fun r => decide (rsignV r < 0))) := by
    induction xs with
    | nil => rfl
    | cons a l ih =>
      rw [List.any_cons, List.all_cons, List.any_cons, ih]
      unfold shareBad rsign
      cases ratOkB a <;> simp
      cases decide (rsignV a < 0) <;> cases l.all ratOkB <;> simp
  rw [e]
  cases xs.all ratOkB <;> cases xs.any (fun r => decide (rsignV r < 0)) <;> cases partB p <;> rfl
theorem dig_limb {n : Nat} (h0 : 0 < n) (h1 : n < 1000000000) : dig n = [(n : Int)] := by
  cases n with
  | zero => omega
  | succ n =>
    show digF (n + 1) (n + 1) = _
    unfold digF
    rw [if_neg (by omega), Nat.mod_eq_of_lt h1, Nat.div_eq_of_lt h1]
    cases n <;> simp [digF]
theorem rint_ratV (n : Nat) (h0 : 0 < n) (h1 : n < 1000000000) : RatV (rint n) := by
  have e : encI (n : Int) = ⟨false, [(n : Int)]⟩ := by unfold encI; rw [Int.natAbs_natCast, dig_limb h0 h1]; simp
  unfold rint
  rw [e]
  refine ⟨?_, ?_, (by decide : 0 < val [1]), (by simp), (by simp), ?_⟩
  · rw [bigOkB_iff]
    exact ⟨⟨by simp, Lims.one (by omega) (by omega), by simp; omega⟩, by simp⟩
  · exact (⟨Lims.one (by decide) (by decide), by decide⟩ : Can [1])
  · show Int.gcd (val [(n : Int)]) (val [1]) = 1
    simp [val]
end Go.XN
namespace Go.Proofs.YthlpjpcnpcclhaaGreat.X
open Go.RowKit Go.XB Go.XN
attribute [local go_sem] fillBy opAt deps depOf Region.wanted yielded
attribute [local simp] deps depOf MP.eq MP.agg MP.sl Facts
set_option linter.constructorNameAsVariable false

set_option maxHeartbeats 1000000 in
theorem impl_isPart (v : Value) (p : TRat) (b : List Nat) (w : World) (hx : Agg w v p b) : Calls Tryz.prog 78 #[v] w (Gives w (.bool (partB p))) := by
  have HX := hid hx
  obtain ⟨A1, n1, c1, s1, A2, n2, c2, s2, rfl, rfl, hs1, hs2⟩ := TRat.agg hx
  clear hs1 hs2 hx
  cases hr : ratOkB p
  · have E := hid (show false = partB p by unfold partB; rw [hr]; rfl)
    have R := hid hr
    clear hr
    go_enter Tryz.func78, Tryz.ntmps78
    go_wp2_with fail
    refine wp_region_walk (by kernel_rfl) (by kernel_rfl) (by kernel_rfl) ?_
    apply walkM_eq
    case h =>
      intro yq zq wq hC hd
      obtain ⟨hcq, hfq⟩ := bcell hC
      simp at hd
      refine ⟨by go_simp; done, ?_⟩
      go_simp
      first | (go_ints; exact rfl) | (go_ints; rw [if_pos (by omega)]; try exact rfl) | exact rfl | (rw [if_pos (by omega)]; try exact rfl)
    refine walkM_call (MP.eq (.bool false)) ?_ ?_
    · intro yq zq wq hC hd
      obtain ⟨hcq, hfq⟩ := bcell hC
      simp at hd
      refine ⟨by go_simp; done, ?_⟩
      apply Exists.intro
      apply Exists.intro
      constructor
      · go_simp
        exact ⟨rfl, rfl⟩
      · exact gives_eq (by have C := impl_RatOk _ p _ wq (Agg.below HX.out (by (repeat (first | (with_reducible exact Below.refl _ _) | ((with_reducible refine Below.set ?_ ?_ _); rotate_left; (simp <;> omega)) | (with_reducible refine Below.box_ ?_ _) | (with_reducible refine Below.next ?_ (by assumption)))))); rwa [R.out] at C)
    apply walkM_eq
    case h =>
      intro yq zq wq hC hd
      obtain ⟨hcq, hfq⟩ := bcell hC
      simp at hd
      refine ⟨by go_simp; done, ?_⟩
      go_simp
      first | (go_ints; exact rfl) | (go_ints; rw [if_pos (by omega)]; try exact rfl) | exact rfl | (rw [if_pos (by omega)]; try exact rfl)
    iterate 3
      apply walkM_skip
      case h =>
        intro yq zq wq hC hd
        simp at hd
        go_simp
        done
    iterate 2
      apply walkM_eq
      case h =>
        intro yq zq wq hC hd
        obtain ⟨hcq, hfq⟩ := bcell hC
        simp at hd
        refine ⟨by go_simp; done, ?_⟩
        go_simp
        first | (go_ints; exact rfl) | (go_ints; rw [if_pos (by omega)]; try exact rfl) | exact rfl | (rw [if_pos (by omega)]; try exact rfl)
    iterate 4
      apply walkM_skip
      case h =>
        intro yq zq wq hC hd
        simp at hd
        go_simp
        done
    iterate 2
      apply walkM_eq
      case h =>
        intro yq zq wq hC hd
        obtain ⟨hcq, hfq⟩ := bcell hC
        simp at hd
        refine ⟨by go_simp; done, ?_⟩
        go_simp
        first | (go_ints; exact rfl) | (go_ints; rw [if_pos (by omega)]; try exact rfl) | exact rfl | (rw [if_pos (by omega)]; try exact rfl)
    intro yq zq ux hC hd hdis0
    have hdis := hid hdis0
    clear hdis0
    simp at hd
    go_simp
    clear hd hdis
    go_wp2
    go_ret
    exact ⟨ret_bool E.out, by (repeat (first | (with_reducible exact Below.refl _ _) | ((with_reducible refine Below.set ?_ ?_ _); rotate_left; (simp <;> omega)) | (with_reducible refine Below.box_ ?_ _) | (with_reducible refine Below.next ?_ (by assumption))))⟩
  have V := hid (ratOkB_iff.1 hr)
  have R := hid hr
  rcases Int.lt_or_le (rsignV p) 0 with h | h
  · have E := hid (show false = partB p by unfold partB; rw [hr, decide_eq_false (by omega : ¬ 0 ≤ rsignV p)]; rfl)
    have h' : ¬ (0 ≤ rsignV p) := by omega
    clear hr
    go_enter Tryz.func78, Tryz.ntmps78
    go_wp2_with fail
    refine wp_region_walk (by kernel_rfl) (by kernel_rfl) (by kernel_rfl) ?_
    apply walkM_eq
    case h =>
      intro yq zq wq hC hd
      obtain ⟨hcq, hfq⟩ := bcell hC
      simp at hd
      refine ⟨by go_simp; done, ?_⟩
      go_simp
      first | (go_ints; exact rfl) | (go_ints; rw [if_pos (by omega)]; try exact rfl) | exact rfl | (rw [if_pos (by omega)]; try exact rfl)
    refine walkM_call (MP.eq (.bool true)) ?_ ?_
    · intro yq zq wq hC hd
      obtain ⟨hcq, hfq⟩ := bcell hC
      simp at hd
      refine ⟨by go_simp; done, ?_⟩
      apply Exists.intro
      apply Exists.intro
      constructor
      · go_simp
        exact ⟨rfl, rfl⟩
      · exact gives_eq (by have C := impl_RatOk _ p _ wq (Agg.below HX.out (by (repeat (first | (with_reducible exact Below.refl _ _) | ((with_reducible refine Below.set ?_ ?_ _); rotate_left; (simp <;> omega)) | (with_reducible refine Below.box_ ?_ _) | (with_reducible refine Below.next ?_ (by assumption)))))); rwa [R.out] at C)
    apply walkM_eq
    case h =>
      intro yq zq wq hC hd
      obtain ⟨hcq, hfq⟩ := bcell hC
      simp at hd
      refine ⟨by go_simp; done, ?_⟩
      go_simp
      first | (go_ints; exact rfl) | (go_ints; rw [if_pos (by omega)]; try exact rfl) | exact rfl | (rw [if_pos (by omega)]; try exact rfl)
    apply walkM_eq
    case h =>
      intro yq zq wq hC hd
      obtain ⟨hcq, hfq⟩ := bcell hC
      simp at hd
      refine ⟨by go_simp; done, ?_⟩
      go_simp
      first | (go_ints; exact rfl) | (go_ints; rw [if_pos (by omega)]; try exact rfl) | exact rfl | (rw [if_pos (by omega)]; try exact rfl)
    refine walkM_call (MP.eq (.int .i64 (rsignV p))) ?_ ?_
    · intro yq zq wq hC hd
      obtain ⟨hcq, hfq⟩ := bcell hC
      simp at hd
      refine ⟨by go_simp; done, ?_⟩
      apply Exists.intro
      apply Exists.intro
      constructor
      · go_simp
        exact ⟨rfl, rfl⟩
      · exact gives_eq (impl_sign _ p _ wq (Agg.below HX.out (by (repeat (first | (with_reducible exact Below.refl _ _) | ((with_reducible refine Below.set ?_ ?_ _); rotate_left; (simp <;> omega)) | (with_reducible refine Below.box_ ?_ _) | (with_reducible refine Below.next ?_ (by assumption)))))) V.out.mag (negOk_of V.out.num))
    refine walkM_eq (.bool false) ?_ ?_
    · intro yq zq wq hC hd
      obtain ⟨hcq, hfq⟩ := bcell hC
      simp at hd
      refine ⟨by go_simp; done, ?_⟩
      go_simp
      all_goals (try simp [*])
    iterate 2
      apply walkM_eq
      case h =>
        intro yq zq wq hC hd
        obtain ⟨hcq, hfq⟩ := bcell hC
        simp at hd
        refine ⟨by go_simp; done, ?_⟩
        go_simp
        first | (go_ints; exact rfl) | (go_ints; rw [if_pos (by omega)]; try exact rfl) | exact rfl | (rw [if_pos (by omega)]; try exact rfl)
    iterate 4
      apply walkM_skip
      case h =>
        intro yq zq wq hC hd
        simp at hd
        go_simp
        done
    iterate 2
      apply walkM_eq
      case h =>
        intro yq zq wq hC hd
        obtain ⟨hcq, hfq⟩ := bcell hC
        simp at hd
        refine ⟨by go_simp; done, ?_⟩
        go_simp
        first | (go_ints; exact rfl) | (go_ints; rw [if_pos (by omega)]; try exact rfl) | exact rfl | (rw [if_pos (by omega)]; try exact rfl)
    intro yq zq ux hC hd hdis0
    have hdis := hid hdis0
    clear hdis0
    simp at hd
    go_simp
    clear hd hdis
    go_wp2
    go_ret
    exact ⟨ret_bool E.out, by (repeat (first | (with_reducible exact Below.refl _ _) | ((with_reducible refine Below.set ?_ ?_ _); rotate_left; (simp <;> omega)) | (with_reducible refine Below.box_ ?_ _) | (with_reducible refine Below.next ?_ (by assumption))))⟩
  · have E := hid (show decide (rcmpV p (rint 1) ≤ 0) = partB p by unfold partB; rw [hr, decide_eq_true h]; simp)
    have V1 := hid (rint_ratV 1 (by decide) (by decide))
    clear hr
    go_enter Tryz.func78, Tryz.ntmps78
    go_wp2_with fail
    refine wp_region_walk (by kernel_rfl) (by kernel_rfl) (by kernel_rfl) ?_
    apply walkM_eq
    case h =>
      intro yq zq wq hC hd
      obtain ⟨hcq, hfq⟩ := bcell hC
      simp at hd
      refine ⟨by go_simp; done, ?_⟩
      go_simp
      first | (go_ints; exact rfl) | (go_ints; rw [if_pos (by omega)]; try exact rfl) | exact rfl | (rw [if_pos (by omega)]; try exact rfl)
    refine walkM_call (MP.eq (.bool true)) ?_ ?_
    · intro yq zq wq hC hd
      obtain ⟨hcq, hfq⟩ := bcell hC
      simp at hd
      refine ⟨by go_simp; done, ?_⟩
      apply Exists.intro
      apply Exists.intro
      constructor
      · go_simp
        exact ⟨rfl, rfl⟩
      · exact gives_eq (by have C := impl_RatOk _ p _ wq (Agg.below HX.out (by (repeat (first | (with_reducible exact Below.refl _ _) | ((with_reducible refine Below.set ?_ ?_ _); rotate_left; (simp <;> omega)) | (with_reducible refine Below.box_ ?_ _) | (with_reducible refine Below.next ?_ (by assumption)))))); rwa [R.out] at C)
    apply walkM_eq
    case h =>
      intro yq zq wq hC hd
      obtain ⟨hcq, hfq⟩ := bcell hC
      simp at hd
      refine ⟨by go_simp; done, ?_⟩
      go_simp
      first | (go_ints; exact rfl) | (go_ints; rw [if_pos (by omega)]; try exact rfl) | exact rfl | (rw [if_pos (by omega)]; try exact rfl)
    apply walkM_eq
    case h =>
      intro yq zq wq hC hd
      obtain ⟨hcq, hfq⟩ := bcell hC
      simp at hd
      refine ⟨by go_simp; done, ?_⟩
      go_simp
      first | (go_ints; exact rfl) | (go_ints; rw [if_pos (by omega)]; try exact rfl) | exact rfl | (rw [if_pos (by omega)]; try exact rfl)
    refine walkM_call (MP.eq (.int .i64 (rsignV p))) ?_ ?_
    · intro yq zq wq hC hd
      obtain ⟨hcq, hfq⟩ := bcell hC
      simp at hd
      refine ⟨by go_simp; done, ?_⟩
      apply Exists.intro
      apply Exists.intro
      constructor
      · go_simp
        exact ⟨rfl, rfl⟩
      · exact gives_eq (impl_sign _ p _ wq (Agg.below HX.out (by (repeat (first | (with_reducible exact Below.refl _ _) | ((with_reducible refine Below.set ?_ ?_ _); rotate_left; (simp <;> omega)) | (with_reducible refine Below.box_ ?_ _) | (with_reducible refine Below.next ?_ (by assumption)))))) V.out.mag (negOk_of V.out.num))
    refine walkM_eq (.bool true) ?_ ?_
    · intro yq zq wq hC hd
      obtain ⟨hcq, hfq⟩ := bcell hC
      simp at hd
      refine ⟨by go_simp; done, ?_⟩
      go_simp
      all_goals (try simp [*])
    iterate 3
      apply walkM_eq
      case h =>
        intro yq zq wq hC hd
        obtain ⟨hcq, hfq⟩ := bcell hC
        simp at hd
        refine ⟨by go_simp; done, ?_⟩
        go_simp
        first | (go_ints; exact rfl) | (go_ints; rw [if_pos (by omega)]; try exact rfl) | exact rfl | (rw [if_pos (by omega)]; try exact rfl)
    refine walkM_call (MP.agg (rint 1)) ?_ ?_
    · intro yq zq wq hC hd
      obtain ⟨hcq, hfq⟩ := bcell hC
      simp at hd
      refine ⟨by go_simp; done, ?_⟩
      apply Exists.intro
      apply Exists.intro
      constructor
      · go_simp
        exact ⟨rfl, rfl⟩
      · exact gives_agg (impl_RatFromInt 1 wq (by constructor <;> decide))
    refine walkM_call (MP.eq (.int .i64 (rcmpV p (rint 1)))) ?_ ?_
    · intro yq zq wq hC hd
      obtain ⟨hcq, hfq⟩ := bcell hC
      simp at hd
      refine ⟨by go_simp; done, ?_⟩
      apply Exists.intro
      apply Exists.intro
      constructor
      · go_simp
        exact ⟨rfl, rfl⟩
      · obtain ⟨_, ⟨t, _⟩, _⟩ := hd
        exact gives_eq (impl_compare _ _ p (rint 1) _ _ wq (Agg.below HX.out (by (repeat (first | (with_reducible exact Below.refl _ _) | ((with_reducible refine Below.set ?_ ?_ _); rotate_left; (simp <;> omega)) | (with_reducible refine Below.box_ ?_ _) | (with_reducible refine Below.next ?_ (by assumption)))))) t V.out V1.out)
    iterate 3
      apply walkM_eq
      case h =>
        intro yq zq wq hC hd
        obtain ⟨hcq, hfq⟩ := bcell hC
        simp at hd
        refine ⟨by go_simp; done, ?_⟩
        go_simp
        first | (go_ints; exact rfl) | (go_ints; rw [if_pos (by omega)]; try exact rfl) | exact rfl | (rw [if_pos (by omega)]; try exact rfl)
    intro yq zq ux hC hd hdis0
    have hdis := hid hdis0
    clear hdis0
    simp at hd
    go_simp
    clear hd hdis
    go_wp2
    go_ret
    exact ⟨ret_bool E.out, by (repeat (first | (with_reducible exact Below.refl _ _) | ((with_reducible refine Below.set ?_ ?_ _); rotate_left; (simp <;> omega)) | (with_reducible refine Below.box_ ?_ _) | (with_reducible refine Below.next ?_ (by assumption))))⟩

theorem known_areShares_1 : Known 80 := fun a w => by kernel_rfl
set_option maxHeartbeats 400000 in
theorem impl_areShares_1 (v : Value) (x : TRat) (b : List Nat) (w : World) (hx : Agg w v x b) (vx : RatV x) : Calls Tryz.prog 80 #[v] w (Gives w (.bool (decide (rsignV x < 0)))) := by
  have HX := hid hx
  have V := hid vx
  obtain ⟨A1, n1, c1, s1, A2, n2, c2, s2, rfl, rfl, hs1, hs2⟩ := TRat.agg hx
  clear hs1 hs2 hx vx
  go_enter Tryz.func80, Tryz.ntmps80
  go_wp2_with fail
  refine (impl_sign _ x _ _ (Agg.below HX.out (by (repeat (first | (with_reducible exact Below.refl _ _) | ((with_reducible refine Below.set ?_ ?_ _); rotate_left; (simp <;> omega)) | (with_reducible refine Below.box_ ?_ _) | (with_reducible refine Below.next ?_ (by assumption)))))) V.out.mag (negOk_of V.out.num)).mono ?_
  rintro _ w1 ⟨rfl, hb1⟩
  go_wp2
  go_ret
  exact ⟨rfl, by (repeat (first | (with_reducible exact Below.refl _ _) | ((with_reducible refine Below.set ?_ ?_ _); rotate_left; (simp <;> omega)) | (with_reducible refine Below.box_ ?_ _) | (with_reducible refine Below.next ?_ (by assumption))))⟩

set_option maxHeartbeats 1000000 in
theorem impl_areShares (A : Option Addr) (n c : Nat) (xs : List TRat) (bs : List Nat) (v : Value) (p : TRat) (b : List Nat) (w : World) (hx : Sl w A n c xs bs) (hp : Agg w v p b) :
    Calls Tryz.prog 47 #[.slice A n c, v] w (Gives w (.bool (sharesB xs p))) := by
  have HX := hid hx
  have HP := hid hp
  obtain ⟨A1, n1, c1, s1, A2, n2, c2, s2, rfl, rfl, hs1, hs2⟩ := TRat.agg hp
  clear hs1 hs2 hp hx
  cases hok : xs.all ratOkB
  · have E := hid (show false = sharesB xs p by unfold sharesB; rw [hok]; rfl)
    have OK := hid hok
    clear hok
    go_enter Tryz.func47, Tryz.ntmps47
    go_wp2_with fail
    have C := impl_areRats A n c xs _ (w.alloc (.cells #[.bool p.num.neg, .slice A1 n1 c1, .slice A2 n2 c2] 43)) (Sl.below HX.out (by (repeat (first | (with_reducible exact Below.refl _ _) | ((with_reducible refine Below.set ?_ ?_ _); rotate_left; (simp <;> omega)) | (with_reducible refine Below.box_ ?_ _) | (with_reducible refine Below.next ?_ (by assumption))))))
    rw [OK.out] at C
    refine C.mono ?_
    clear C
    rintro _ w1 ⟨rfl, hb1⟩
    obtain ⟨hc_w1, hf_w1⟩ := bcell hb1
    have hz0_w1 : w.heap.size < w1.heap.size := by have := hb1.size; (try simp at this); omega
    go_wp2
    go_ret
    exact ⟨ret_bool E.out, by (repeat (first | (with_reducible exact Below.refl _ _) | ((with_reducible refine Below.set ?_ ?_ _); rotate_left; (simp <;> omega)) | (with_reducible refine Below.box_ ?_ _) | (with_reducible refine Below.next ?_ (by assumption))))⟩
  cases hpp : partB p
  · have E := hid (show false = sharesB xs p by unfold sharesB; rw [hok, hpp]; rfl)
    have OK := hid hok; have P := hid hpp
    clear hok hpp
    go_enter Tryz.func47, Tryz.ntmps47
    go_wp2_with fail
    have C := impl_areRats A n c xs _ (w.alloc (.cells #[.bool p.num.neg, .slice A1 n1 c1, .slice A2 n2 c2] 43)) (Sl.below HX.out (by (repeat (first | (with_reducible exact Below.refl _ _) | ((with_reducible refine Below.set ?_ ?_ _); rotate_left; (simp <;> omega)) | (with_reducible refine Below.box_ ?_ _) | (with_reducible refine Below.next ?_ (by assumption))))))
    rw [OK.out] at C
    refine C.mono ?_
    clear C
    rintro _ w1 ⟨rfl, hb1⟩
    obtain ⟨hc_w1, hf_w1⟩ := bcell hb1
    have hz0_w1 : w.heap.size < w1.heap.size := by have := hb1.size; (try simp at this); omega
    go_wp2_with fail
    have C := impl_isPart _ p _ w1 (Agg.below HP.out (by (repeat (first | (with_reducible exact Below.refl _ _) | ((with_reducible refine Below.set ?_ ?_ _); rotate_left; (simp <;> omega)) | (with_reducible refine Below.box_ ?_ _) | (with_reducible refine Below.next ?_ (by assumption))))))
    rw [P.out] at C
    refine C.mono ?_
    clear C
    rintro _ w2 ⟨rfl, hb2⟩
    go_wp2
    go_ret
    exact ⟨ret_bool E.out, by (repeat (first | (with_reducible exact Below.refl _ _) | ((with_reducible refine Below.set ?_ ?_ _); rotate_left; (simp <;> omega)) | (with_reducible refine Below.box_ ?_ _) | (with_reducible refine Below.next ?_ (by assumption))))⟩
  have E := hid (show (!xs.any (fun r => decide (rsignV r < 0))) = sharesB xs p by unfold sharesB; rw [hok, hpp]; rfl)
  have OK := hid hok; have P := hid hpp
  have V := hid (fun x (hm : x ∈ xs) => ratOkB_iff.1 (List.all_eq_true.1 hok x hm))
  clear hok hpp
  go_enter Tryz.func47, Tryz.ntmps47
  go_wp2_with fail
  have C := impl_areRats A n c xs _ (w.alloc (.cells #[.bool p.num.neg, .slice A1 n1 c1, .slice A2 n2 c2] 43)) (Sl.below HX.out (by (repeat (first | (with_reducible exact Below.refl _ _) | ((with_reducible refine Below.set ?_ ?_ _); rotate_left; (simp <;> omega)) | (with_reducible refine Below.box_ ?_ _) | (with_reducible refine Below.next ?_ (by assumption))))))
  rw [OK.out] at C
  refine C.mono ?_
  clear C
  rintro _ w1 ⟨rfl, hb1⟩
  obtain ⟨hc_w1, hf_w1⟩ := bcell hb1
  have hz0_w1 : w.heap.size < w1.heap.size := by have := hb1.size; (try simp at this); omega
  go_wp2_with fail
  have C := impl_isPart _ p _ w1 (Agg.below HP.out (by (repeat (first | (with_reducible exact Below.refl _ _) | ((with_reducible refine Below.set ?_ ?_ _); rotate_left; (simp <;> omega)) | (with_reducible refine Below.box_ ?_ _) | (with_reducible refine Below.next ?_ (by assumption))))))
  rw [P.out] at C
  refine C.mono ?_
  clear C
  rintro _ w2 ⟨rfl, hb2⟩
  go_wp2_with fail
  refine (contains_rats 80 known_areShares_1 A n c xs bs _ (fun r => decide (rsignV r < 0)) (Sl.below HX.out (by (repeat (first | (with_reducible exact Below.refl _ _) | ((with_reducible refine Below.set ?_ ?_ _); rotate_left; (simp <;> omega)) | (with_reducible refine Below.box_ ?_ _) | (with_reducible refine Below.next ?_ (by assumption)))))) (fun v x b w hm h => impl_areShares_1 v x b w h (V.out x hm))).mono ?_
  rintro _ w3 ⟨rfl, hb3⟩
  generalize xs.any (fun r => decide (rsignV r < 0)) = an at *
  go_wp2
  go_ret
  exact ⟨ret_bool E.out, by (repeat (first | (with_reducible exact Below.refl _ _) | ((with_reducible refine Below.set ?_ ?_ _); rotate_left; (simp <;> omega)) | (with_reducible refine Below.box_ ?_ _) | (with_reducible refine Below.next ?_ (by assumption))))⟩

set_option maxHeartbeats 4000000 in
set_option maxRecDepth 10000 in
theorem spec_l25Ok (A : Option Addr) (n c : Nat) (xs : List TRat) (bs : List Nat) (v : Value) (p : TRat) (b : List Nat) (w : World) (hx : Sl w A n c xs bs) (hp : Agg w v p b) :
    Calls Tryz.prog 36 #[.slice A n c, v] w (Gives w (.bool (sharesB xs p))) := by
  have HL := hid hx.1
  have HX := hid hx
  have hm : n ≤ maxLen := Nat.le_trans hx.2.1 hx.2.2.1
  unfold maxLen at hm
  have HP := hid hp
  obtain ⟨A1, n1, c1, s1, A2, n2, c2, s2, rfl, rfl, hs1, hs2⟩ := TRat.agg hp
  clear hs1 hs2 hp hx
  go_enter Tryz.func36, Tryz.ntmps36
  go_wp2_with fail
  go_loopg [9] n (fun g s wr => ∃ k : Nat, k + g = n ∧ s = .int .i64 k ∧ Hid ((xs.take k).any shareBad = false) ∧ Below w.heap.size w wr ∧ (w.heap.size < wr.heap.size ∧ wr.cell? ⟨w.heap.size, 0, none⟩ = some (.bool p.num.neg) ∧ wr.cell? ⟨w.heap.size, 1, none⟩ = some (.slice A1 n1 c1) ∧ wr.cell? ⟨w.heap.size, 2, none⟩ = some (.slice A2 n2 c2)))
  case atStart => exact ⟨0, by omega, rfl, by show (xs.take 0).any _ = false; simp, by (repeat (first | (with_reducible exact Below.refl _ _) | ((with_reducible refine Below.set ?_ ?_ _); rotate_left; (simp <;> omega)) | (with_reducible refine Below.box_ ?_ _) | (with_reducible refine Below.next ?_ (by assumption)))), by simp, by go_simp, by go_simp, by go_simp⟩
  case round =>
    obtain ⟨k, hk, rfl, ha, hb, hs, hp0, hp1, hp2⟩ := hrel
    have HB := hid hb
    rcases Nat.lt_or_ge k n with hkn | hkn
    · obtain ⟨be, offe, x, E1, q1, p1, E2, q2, p2, fy, rfl, hble, hx1, e0, e1, e2, hag, hfy⟩ := TRat.elemB HX.out hb hkn
      have HX1 := hid hx1
      have HAG := hid hag
      have hki : (k : Int) < n := by omega
      obtain ⟨g, rfl⟩ : ∃ g, gk = g + 1 := ⟨gk - 1, by omega⟩
      have hk' := hid (show k + 1 + g = n by omega)
      have hk1 : k + 1 ≤ n := hkn
      have hle : be < wr.heap.size := by have := hb.size; omega
      have hu1 : w.heap.size < wr.heap.size + 1 := by omega
      clear hx1 hk hkn hag hfy
      have BX := hid (rfl : wr.alloc (.cells #[.bool x.num.neg, .slice E1 q1 p1, .slice E2 q2 p2] 43) = wr.alloc (.cells #[.bool x.num.neg, .slice E1 q1 p1, .slice E2 q2 p2] 43))
      clear BX
      cases hok : ratOkB x
      · have OK := hid hok
        have e := hid (show false = sharesB xs p by rw [shares_eq, List.any_eq_true.2 ⟨x, List.mem_of_getElem? HX1.out, by unfold shareBad; rw [hok]; rfl⟩]; rfl)
        clear hok
        go_wp2_with fail
        have C := spec_RatOk _ x _ (wr.alloc (.cells #[.bool x.num.neg, .slice E1 q1 p1, .slice E2 q2 p2] 43)) (Agg.below HAG.out (Below.box _))
        rw [OK.out] at C
        refine C.mono ?_
        clear C
        rintro _ w1 ⟨rfl, hb1⟩
        have hb2 := Below.next hb (Below.next (Below.box _) hb1)
        go_wp2
        go_ret
        exact ⟨ret_bool e.out, hb2⟩
      have OK := hid hok
      have hsv : rsign x = rsignV x := by unfold rsign; rw [hok]; rfl
      have SV := hid hsv
      rcases Int.lt_or_le (rsignV x) 0 with hsg | hsg
      · have e := hid (show false = sharesB xs p by rw [shares_eq, List.any_eq_true.2 ⟨x, List.mem_of_getElem? HX1.out, by unfold shareBad; rw [hok, hsv, decide_eq_true hsg]; rfl⟩]; rfl)
        clear hok hsv
        go_wp2_with fail
        have C := spec_RatOk _ x _ (wr.alloc (.cells #[.bool x.num.neg, .slice E1 q1 p1, .slice E2 q2 p2] 43)) (Agg.below HAG.out (Below.box _))
        rw [OK.out] at C
        refine C.mono ?_
        clear C
        rintro _ w1 ⟨rfl, hb1⟩
        obtain ⟨hc_w1, hf_w1⟩ := bcell hb1
        go_wp2_with fail
        have C := spec_RatSign _ x _ w1 (Agg.below (Agg.below HAG.out (Below.box _)) hb1)
        rw [SV.out] at C
        refine C.mono ?_
        clear C
        rintro _ w2 ⟨rfl, hb2⟩
        have hb3 := Below.next (Below.next hb (Below.next (Below.box _) hb1)) hb2
        go_wp2
        go_ret
        exact ⟨ret_bool e.out, hb3⟩
      · have hsg' : ¬ (rsignV x < 0) := by omega
        have r1 := hid (show (xs.take (k + 1)).any shareBad = false from any_step HX1.out ha.out (by unfold shareBad; rw [hok, hsv, decide_eq_false hsg']; rfl))
        clear hok hsv hsg
        go_wp2_with fail
        have C := spec_RatOk _ x _ (wr.alloc (.cells #[.bool x.num.neg, .slice E1 q1 p1, .slice E2 q2 p2] 43)) (Agg.below HAG.out (Below.box _))
        rw [OK.out] at C
        refine C.mono ?_
        clear C
        rintro _ w1 ⟨rfl, hb1⟩
        obtain ⟨hc_w1, hf_w1⟩ := bcell hb1
        have hz1 : w.heap.size < w1.heap.size := by have := hb1.size; (try simp at this); omega
        have hz2 : wr.heap.size < w1.heap.size := by have := hb1.size; (try simp at this); omega
        go_wp2_with fail
        have C := spec_RatSign _ x _ w1 (Agg.below (Agg.below HAG.out (Below.box _)) hb1)
        rw [SV.out] at C
        refine C.mono ?_
        clear C
        rintro _ w2 ⟨rfl, hb2⟩
        obtain ⟨hc_w2, hf_w2⟩ := bcell hb2
        have hz3 : w.heap.size < w2.heap.size := by have := hb2.size; (try simp at this); omega
        have hb3 := Below.next (Below.next hb (Below.next (Below.box _) hb1)) hb2
        go_wp2_with fail
        go_roundg g
        case measure => omega
        case rel => exact ⟨k + 1, hk'.out, by go_num, r1, hb3, hz3, by go_simp, by go_simp, by go_simp⟩
    · have hki : ¬ ((k : Int) < n) := by omega
      have an := hid (show xs.any shareBad = false by
        have := ha.out
        rwa [List.take_of_length_le (by rw [HL.out]; omega)] at this)
      clear hk hkn
      cases hr : ratOkB p
      · have E := hid (show false = sharesB xs p by rw [shares_eq, an.out]; unfold partB; rw [hr]; rfl)
        have R := hid hr
        clear hr
        go_wp2_with fail
        refine wp_region_walk (by kernel_rfl) (by kernel_rfl) (by kernel_rfl) ?_
        apply walkM_eq
        case h =>
          intro yq zq wq hC hd
          obtain ⟨hcq, hfq⟩ := bcell hC
          simp at hd
          refine ⟨by go_simp; done, ?_⟩
          go_simp
          first | (go_ints; exact rfl) | (go_ints; rw [if_pos (by omega)]; try exact rfl) | exact rfl | (rw [if_pos (by omega)]; try exact rfl)
        refine walkM_call (MP.eq (.bool false)) ?_ ?_
        · intro yq zq wq hC hd
          obtain ⟨hcq, hfq⟩ := bcell hC
          simp at hd
          refine ⟨by go_simp; done, ?_⟩
          apply Exists.intro
          apply Exists.intro
          constructor
          · go_simp
            exact ⟨rfl, rfl⟩
          · exact gives_eq (by have C := spec_RatOk _ p _ wq (Agg.below HP.out (by (repeat (first | (with_reducible exact Below.refl _ _) | ((with_reducible refine Below.set ?_ ?_ _); rotate_left; (simp <;> omega)) | (with_reducible refine Below.box_ ?_ _) | (with_reducible refine Below.next ?_ (by assumption)))))); rwa [R.out] at C)
        apply walkM_eq
        case h =>
          intro yq zq wq hC hd
          obtain ⟨hcq, hfq⟩ := bcell hC
          simp at hd
          refine ⟨by go_simp; done, ?_⟩
          go_simp
          first | (go_ints; exact rfl) | (go_ints; rw [if_pos (by omega)]; try exact rfl) | exact rfl | (rw [if_pos (by omega)]; try exact rfl)
        iterate 3
          apply walkM_skip
          case h =>
            intro yq zq wq hC hd
            simp at hd
            go_simp
            done
        iterate 2
          apply walkM_eq
          case h =>
            intro yq zq wq hC hd
            obtain ⟨hcq, hfq⟩ := bcell hC
            simp at hd
            refine ⟨by go_simp; done, ?_⟩
            go_simp
            first | (go_ints; exact rfl) | (go_ints; rw [if_pos (by omega)]; try exact rfl) | exact rfl | (rw [if_pos (by omega)]; try exact rfl)
        iterate 4
          apply walkM_skip
          case h =>
            intro yq zq wq hC hd
            simp at hd
            go_simp
            done
        iterate 2
          apply walkM_eq
          case h =>
            intro yq zq wq hC hd
            obtain ⟨hcq, hfq⟩ := bcell hC
            simp at hd
            refine ⟨by go_simp; done, ?_⟩
            go_simp
            first | (go_ints; exact rfl) | (go_ints; rw [if_pos (by omega)]; try exact rfl) | exact rfl | (rw [if_pos (by omega)]; try exact rfl)
        intro yq zq ux hC hd hdis0
        have hdis := hid hdis0
        clear hdis0
        simp at hd
        go_simp
        clear hd hdis
        go_wp2
        go_ret
        exact ⟨ret_bool E.out, by (repeat (first | (with_reducible exact Below.refl _ _) | ((with_reducible refine Below.set ?_ ?_ _); rotate_left; (simp <;> omega)) | (with_reducible refine Below.box_ ?_ _) | (with_reducible refine Below.next ?_ (by assumption))))⟩
      have R := hid hr
      have SP := hid (show rsign p = rsignV p by unfold rsign; rw [hr]; rfl)
      rcases Int.lt_or_le (rsignV p) 0 with h | h
      · have E := hid (show false = sharesB xs p by rw [shares_eq, an.out]; unfold partB; rw [hr, decide_eq_false (by omega : ¬ 0 ≤ rsignV p)]; rfl)
        have h' : ¬ (0 ≤ rsignV p) := by omega
        clear hr
        go_wp2_with fail
        refine wp_region_walk (by kernel_rfl) (by kernel_rfl) (by kernel_rfl) ?_
        apply walkM_eq
        case h =>
          intro yq zq wq hC hd
          obtain ⟨hcq, hfq⟩ := bcell hC
          simp at hd
          refine ⟨by go_simp; done, ?_⟩
          go_simp
          first | (go_ints; exact rfl) | (go_ints; rw [if_pos (by omega)]; try exact rfl) | exact rfl | (rw [if_pos (by omega)]; try exact rfl)
        refine walkM_call (MP.eq (.bool true)) ?_ ?_
        · intro yq zq wq hC hd
          obtain ⟨hcq, hfq⟩ := bcell hC
          simp at hd
          refine ⟨by go_simp; done, ?_⟩
          apply Exists.intro
          apply Exists.intro
          constructor
          · go_simp
            exact ⟨rfl, rfl⟩
          · exact gives_eq (by have C := spec_RatOk _ p _ wq (Agg.below HP.out (by (repeat (first | (with_reducible exact Below.refl _ _) | ((with_reducible refine Below.set ?_ ?_ _); rotate_left; (simp <;> omega)) | (with_reducible refine Below.box_ ?_ _) | (with_reducible refine Below.next ?_ (by assumption)))))); rwa [R.out] at C)
        apply walkM_eq
        case h =>
          intro yq zq wq hC hd
          obtain ⟨hcq, hfq⟩ := bcell hC
          simp at hd
          refine ⟨by go_simp; done, ?_⟩
          go_simp
          first | (go_ints; exact rfl) | (go_ints; rw [if_pos (by omega)]; try exact rfl) | exact rfl | (rw [if_pos (by omega)]; try exact rfl)
        apply walkM_eq
        case h =>
          intro yq zq wq hC hd
          obtain ⟨hcq, hfq⟩ := bcell hC
          simp at hd
          refine ⟨by go_simp; done, ?_⟩
          go_simp
          first | (go_ints; exact rfl) | (go_ints; rw [if_pos (by omega)]; try exact rfl) | exact rfl | (rw [if_pos (by omega)]; try exact rfl)
        refine walkM_call (MP.eq (.int .i64 (rsignV p))) ?_ ?_
        · intro yq zq wq hC hd
          obtain ⟨hcq, hfq⟩ := bcell hC
          simp at hd
          refine ⟨by go_simp; done, ?_⟩
          apply Exists.intro
          apply Exists.intro
          constructor
          · go_simp
            exact ⟨rfl, rfl⟩
          · exact gives_eq (by have C := spec_RatSign _ p _ wq (Agg.below HP.out (by (repeat (first | (with_reducible exact Below.refl _ _) | ((with_reducible refine Below.set ?_ ?_ _); rotate_left; (simp <;> omega)) | (with_reducible refine Below.box_ ?_ _) | (with_reducible refine Below.next ?_ (by assumption)))))); rwa [SP.out] at C)
        refine walkM_eq (.bool false) ?_ ?_
        · intro yq zq wq hC hd
          obtain ⟨hcq, hfq⟩ := bcell hC
          simp at hd
          refine ⟨by go_simp; done, ?_⟩
          go_simp
          all_goals (try simp [*])
        iterate 2
          apply walkM_eq
          case h =>
            intro yq zq wq hC hd
            obtain ⟨hcq, hfq⟩ := bcell hC
            simp at hd
            refine ⟨by go_simp; done, ?_⟩
            go_simp
            first | (go_ints; exact rfl) | (go_ints; rw [if_pos (by omega)]; try exact rfl) | exact rfl | (rw [if_pos (by omega)]; try exact rfl)
        iterate 4
          apply walkM_skip
          case h =>
            intro yq zq wq hC hd
            simp at hd
            go_simp
            done
        iterate 2
          apply walkM_eq
          case h =>
            intro yq zq wq hC hd
            obtain ⟨hcq, hfq⟩ := bcell hC
            simp at hd
            refine ⟨by go_simp; done, ?_⟩
            go_simp
            first | (go_ints; exact rfl) | (go_ints; rw [if_pos (by omega)]; try exact rfl) | exact rfl | (rw [if_pos (by omega)]; try exact rfl)
        intro yq zq ux hC hd hdis0
        have hdis := hid hdis0
        clear hdis0
        simp at hd
        go_simp
        clear hd hdis
        go_wp2
        go_ret
        exact ⟨ret_bool E.out, by (repeat (first | (with_reducible exact Below.refl _ _) | ((with_reducible refine Below.set ?_ ?_ _); rotate_left; (simp <;> omega)) | (with_reducible refine Below.box_ ?_ _) | (with_reducible refine Below.next ?_ (by assumption))))⟩
      · have V1 := hid (ratOkB_iff.2 (rint_ratV 1 (by decide) (by decide)))
        have E := hid (show decide (rcmpV p (rint 1) ≤ 0) = sharesB xs p by rw [shares_eq, an.out]; unfold partB; rw [hr, decide_eq_true h]; simp)
        have CP := hid (show rcmp p (rint 1) = rcmpV p (rint 1) by unfold rcmp; rw [hr, show ratOkB (rint 1) = true from V1.out]; rfl)
        clear hr
        go_wp2_with fail
        refine wp_region_walk (by kernel_rfl) (by kernel_rfl) (by kernel_rfl) ?_
        apply walkM_eq
        case h =>
          intro yq zq wq hC hd
          obtain ⟨hcq, hfq⟩ := bcell hC
          simp at hd
          refine ⟨by go_simp; done, ?_⟩
          go_simp
          first | (go_ints; exact rfl) | (go_ints; rw [if_pos (by omega)]; try exact rfl) | exact rfl | (rw [if_pos (by omega)]; try exact rfl)
        refine walkM_call (MP.eq (.bool true)) ?_ ?_
        · intro yq zq wq hC hd
          obtain ⟨hcq, hfq⟩ := bcell hC
          simp at hd
          refine ⟨by go_simp; done, ?_⟩
          apply Exists.intro
          apply Exists.intro
          constructor
          · go_simp
            exact ⟨rfl, rfl⟩
          · exact gives_eq (by have C := spec_RatOk _ p _ wq (Agg.below HP.out (by (repeat (first | (with_reducible exact Below.refl _ _) | ((with_reducible refine Below.set ?_ ?_ _); rotate_left; (simp <;> omega)) | (with_reducible refine Below.box_ ?_ _) | (with_reducible refine Below.next ?_ (by assumption)))))); rwa [R.out] at C)
        apply walkM_eq
        case h =>
          intro yq zq wq hC hd
          obtain ⟨hcq, hfq⟩ := bcell hC
          simp at hd
          refine ⟨by go_simp; done, ?_⟩
          go_simp
          first | (go_ints; exact rfl) | (go_ints; rw [if_pos (by omega)]; try exact rfl) | exact rfl | (rw [if_pos (by omega)]; try exact rfl)
        apply walkM_eq
        case h =>
          intro yq zq wq hC hd
          obtain ⟨hcq, hfq⟩ := bcell hC
          simp at hd
          refine ⟨by go_simp; done, ?_⟩
          go_simp
          first | (go_ints; exact rfl) | (go_ints; rw [if_pos (by omega)]; try exact rfl) | exact rfl | (rw [if_pos (by omega)]; try exact rfl)
        refine walkM_call (MP.eq (.int .i64 (rsignV p))) ?_ ?_
        · intro yq zq wq hC hd
          obtain ⟨hcq, hfq⟩ := bcell hC
          simp at hd
          refine ⟨by go_simp; done, ?_⟩
          apply Exists.intro
          apply Exists.intro
          constructor
          · go_simp
            exact ⟨rfl, rfl⟩
          · exact gives_eq (by have C := spec_RatSign _ p _ wq (Agg.below HP.out (by (repeat (first | (with_reducible exact Below.refl _ _) | ((with_reducible refine Below.set ?_ ?_ _); rotate_left; (simp <;> omega)) | (with_reducible refine Below.box_ ?_ _) | (with_reducible refine Below.next ?_ (by assumption)))))); rwa [SP.out] at C)
        refine walkM_eq (.bool true) ?_ ?_
        · intro yq zq wq hC hd
          obtain ⟨hcq, hfq⟩ := bcell hC
          simp at hd
          refine ⟨by go_simp; done, ?_⟩
          go_simp
          all_goals (try simp [*])
        iterate 3
          apply walkM_eq
          case h =>
            intro yq zq wq hC hd
            obtain ⟨hcq, hfq⟩ := bcell hC
            simp at hd
            refine ⟨by go_simp; done, ?_⟩
            go_simp
            first | (go_ints; exact rfl) | (go_ints; rw [if_pos (by omega)]; try exact rfl) | exact rfl | (rw [if_pos (by omega)]; try exact rfl)
        refine walkM_call (MP.agg (rint 1)) ?_ ?_
        · intro yq zq wq hC hd
          obtain ⟨hcq, hfq⟩ := bcell hC
          simp at hd
          refine ⟨by go_simp; done, ?_⟩
          apply Exists.intro
          apply Exists.intro
          constructor
          · go_simp
            exact ⟨rfl, rfl⟩
          · exact gives_agg (spec_RatFromInt 1 wq (by constructor <;> decide))
        refine walkM_call (MP.eq (.int .i64 (rcmpV p (rint 1)))) ?_ ?_
        · intro yq zq wq hC hd
          obtain ⟨hcq, hfq⟩ := bcell hC
          simp at hd
          refine ⟨by go_simp; done, ?_⟩
          apply Exists.intro
          apply Exists.intro
          constructor
          · go_simp
            exact ⟨rfl, rfl⟩
          · obtain ⟨_, ⟨t, _⟩, _⟩ := hd
            exact gives_eq (by have C := spec_RatCmp _ _ p (rint 1) _ _ wq (Agg.below HP.out (by (repeat (first | (with_reducible exact Below.refl _ _) | ((with_reducible refine Below.set ?_ ?_ _); rotate_left; (simp <;> omega)) | (with_reducible refine Below.box_ ?_ _) | (with_reducible refine Below.next ?_ (by assumption)))))) t; rwa [CP.out] at C)
        iterate 3
          apply walkM_eq
          case h =>
            intro yq zq wq hC hd
            obtain ⟨hcq, hfq⟩ := bcell hC
            simp at hd
            refine ⟨by go_simp; done, ?_⟩
            go_simp
            first | (go_ints; exact rfl) | (go_ints; rw [if_pos (by omega)]; try exact rfl) | exact rfl | (rw [if_pos (by omega)]; try exact rfl)
        intro yq zq ux hC hd hdis0
        have hdis := hid hdis0
        clear hdis0
        simp at hd
        go_simp
        clear hd hdis
        go_wp2
        go_ret
        exact ⟨ret_bool E.out, by (repeat (first | (with_reducible exact Below.refl _ _) | ((with_reducible refine Below.set ?_ ?_ _); rotate_left; (simp <;> omega)) | (with_reducible refine Below.box_ ?_ _) | (with_reducible refine Below.next ?_ (by assumption))))⟩
end Go.Proofs.YthlpjpcnpcclhaaGreat.X
