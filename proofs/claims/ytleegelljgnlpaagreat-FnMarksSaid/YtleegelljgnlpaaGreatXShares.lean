/- Shares and parts: isPart, areShares of the program; l25Ok of the reference. -/
import Derived.Test.YtleegelljgnlpaaGreatXRange
namespace Go.XN
open Go.XB
def partB (p : TRat) : Bool := ratOkB p && (decide (0 ≤ rsignV p) && decide (rcmpV p (rint 1) ≤ 0))
def sharesB (xs : List TRat) (p : TRat) : Bool := xs.all ratOkB && (partB p && !xs.any (fun r => decide (rsignV r < 0)))
/-- what the reference rejects -/
def shareBad (r : TRat) : Bool := !ratOkB r || decide (rsign r < 0)
theorem shares_eq (xs : List TRat) (p : TRat) : sharesB xs p = (!xs.any shareBad && partB p) := by
  unfold sharesB
  have e : xs.any shareBad = (!xs.all ratOkB || xs.any (fun r => decide (rsignV r < 0))) := by
    induction xs with
    | nil => rfl
    | cons a l ih =>
      rw [List.any_cons, List.all_cons, List.any_cons, ih]
      unfold shareBad rsign
      cases ratOkB a <;> simp
      cases decide (rsignV a < 0) <;> cases l.all ratOkB <;> simp
  rw [e]
  cases xs.all ratOkB <;> cases xs.any (fun r => decide (rsignV r < 0)) <;> cases partB p <;> rfl
theorem dig_limb {n : Nat} (h0 : 0 < n) (h1 : n < 1000000000) : dig n = [(n : Int)] := by
  cases n with
  | zero => omega
  | succ n =>
    show digF (n + 1) (n + 1) = _
    unfold digF
    rw [if_neg (by omega), Nat.mod_eq_of_lt h1, Nat.div_eq_of_lt h1]
    cases n <;> simp [digF]
theorem rint_ratV (n : Nat) (h0 : 0 < n) (h1 : n < 1000000000) : RatV (rint n) := by
  have e : encI (n : Int) = ⟨false, [(n : Int)]⟩ := by unfold encI; rw [Int.natAbs_natCast, dig_limb h0 h1]; simp
  unfold rint
  rw [e]
  refine ⟨?_, ?_, (by decide : 0 < val [1]), (by simp), (by simp), ?_⟩
  · rw [bigOkB_iff]
    exact ⟨⟨by simp, Lims.one (by omega) (by omega), by simp; omega⟩, by simp⟩
  · exact (⟨Lims.one (by decide) (by decide), by decide⟩ : Can [1])
  · show Int.gcd (val [(n : Int)]) (val [1]) = 1
    simp [val]
end Go.XN
namespace Go.Proofs.YtleegelljgnlpaaGreat.X
open Go.RowKit Go.XB Go.XN
attribute [local go_sem] fillBy opAt deps depOf Region.wanted yielded
attribute [local simp] deps depOf MP.eq MP.agg MP.sl Facts
set_option linter.constructorNameAsVariable false

set_option maxHeartbeats 1000000 in
theorem impl_isPart (v : Value) (p : TRat) (b : List Nat) (w : World) (hx : Agg w v p b) : Calls Tryz.prog 32 #[v] w (Gives w (.bool (partB p))) := by
  have HX := hid hx
  obtain ⟨A1, n1, c1, s1, A2, n2, c2, s2, rfl, rfl, hs1, hs2⟩ := TRat.agg hx
  clear hs1 hs2 hx
  cases hr : ratOkB p
  · have E := hid (show false = partB p by unfold partB; rw [hr]; rfl)
    have R := hid hr
    clear hr
    go_enter Tryz.func32, Tryz.ntmps32
    go_wp2_with fail
    refine wp_region_walk (by kernel_rfl) (by kernel_rfl) (by kernel_rfl) ?_
    apply walkM_eq
    case h =>
      intro yq zq wq hC hd
      obtain ⟨hcq, hfq⟩ := bcell hC
      simp at hd
      refine ⟨by go_simp; done, ?_⟩
      go_simp
      first | (go_ints; exact rfl) | (go_ints; rw [if_pos (by omega)]; try exact rfl) | exact rfl | (rw [if_pos (by omega)]; try exact rfl)
    refine walkM_call (MP.eq (.bool false)) ?_ ?_
    · intro yq zq wq hC hd
      obtain ⟨hcq, hfq⟩ := bcell hC
      simp at hd
      refine ⟨by go_simp; done, ?_⟩
      apply Exists.intro
      apply Exists.intro
      constructor
      · go_simp
        exact ⟨rfl, rfl⟩
      · exact gives_eq (by have C := impl_RatOk _ p _ wq (Agg.below HX.out (by (repeat (first | (with_reducible exact Below.refl _ _) | ((with_reducible refine Below.set ?_ ?_ _); rotate_left; (simp <;> omega)) | (with_reducible refine Below.box_ ?_ _) | (with_reducible refine Below.next ?_ (by assumption)))))); rwa [R.out] at C)
    apply walkM_eq
    case h =>
      intro yq zq wq hC hd
      obtain ⟨hcq, hfq⟩ := bcell hC
      simp at hd
      refine ⟨by go_simp; done, ?_⟩
      go_simp
      first | (go_ints; exact rfl) | (go_ints; rw [if_pos (by omega)]; try exact rfl) | exact rfl | (rw [if_pos (by omega)]; try exact rfl)
    iterate 3
      apply walkM_skip
      case h =>
        intro yq zq wq hC hd
        simp at hd
        go_simp
        done
    iterate 2
      apply walkM_eq
      case h =>
        intro yq zq wq hC hd
        obtain ⟨hcq, hfq⟩ := bcell hC
        simp at hd
        refine ⟨by go_simp; done, ?_⟩
        go_simp
        first | (go_ints; exact rfl) | (go_ints; rw [if_pos (by omega)]; try exact rfl) | exact rfl | (rw [if_pos (by omega)]; try exact rfl)
    iterate 4
      apply walkM_skip
      case h =>
        intro yq zq wq hC hd
        simp at hd
        go_simp
        done
    iterate 2
      apply walkM_eq
      case h =>
        intro yq zq wq hC hd
        obtain ⟨hcq, hfq⟩ := bcell hC
        simp at hd
        refine ⟨by go_simp; done, ?_⟩
        go_simp
        first | (go_ints; exact rfl) | (go_ints; rw [if_pos (by omega)]; try exact rfl) | exact rfl | (rw [if_pos (by omega)]; try exact rfl)
    intro yq zq ux hC hd hdis0
    have hdis := hid hdis0
    clear hdis0
    simp at hd
    go_simp
    clear hd hdis
    go_wp2
    go_ret
    exact ⟨ret_bool E.out, by (repeat (first | (with_reducible exact Below.refl _ _) | ((with_reducible refine Below.set ?_ ?_ _); rotate_left; (simp <;> omega)) | (with_reducible refine Below.box_ ?_ _) | (with_reducible refine Below.next ?_ (by assumption))))⟩
  have V := hid (ratOkB_iff.1 hr)
  have R := hid hr
  rcases Int.lt_or_le (rsignV p) 0 with h | h
  · have E := hid (show false = partB p by unfold partB; rw [hr, decide_eq_false (by omega : ¬ 0 ≤ rsignV p)]; rfl)
    have h' : ¬ (0 ≤ rsignV p) := by omega
    clear hr
    go_enter Tryz.func32, Tryz.ntmps32
    go_wp2_with fail
    refine wp_region_walk (by kernel_rfl) (by kernel_rfl) (by kernel_rfl) ?_
    apply walkM_eq
    case h =>
      intro yq zq wq hC hd
      obtain ⟨hcq, hfq⟩ := bcell hC
      simp at hd
      refine ⟨by go_simp; done, ?_⟩
      go_simp
      first | (go_ints; exact rfl) | (go_ints; rw [if_pos (by omega)]; try exact rfl) | exact rfl | (rw [if_pos (by omega)]; try exact rfl)
    refine walkM_call (MP.eq (.bool true)) ?_ ?_
    · intro yq zq wq hC hd
      obtain ⟨hcq, hfq⟩ := bcell hC
      simp at hd
      refine ⟨by go_simp; done, ?_⟩
      apply Exists.intro
      apply Exists.intro
      constructor
      · go_simp
        exact ⟨rfl, rfl⟩
      · exact gives_eq (by have C := impl_RatOk _ p _ wq (Agg.below HX.out (by (repeat (first | (with_reducible exact Below.refl _ _) | ((with_reducible refine Below.set ?_ ?_ _); rotate_left; (simp <;> omega)) | (with_reducible refine Below.box_ ?_ _) | (with_reducible refine Below.next ?_ (by assumption)))))); rwa [R.out] at C)
    apply walkM_eq
    case h =>
      intro yq zq wq hC hd
      obtain ⟨hcq, hfq⟩ := bcell hC
      simp at hd
      refine ⟨by go_simp; done, ?_⟩
      go_simp
      first | (go_ints; exact rfl) | (go_ints; rw [if_pos (by omega)]; try exact rfl) | exact rfl | (rw [if_pos (by omega)]; try exact rfl)
    apply walkM_eq
    case h =>
      intro yq zq wq hC hd
      obtain ⟨hcq, hfq⟩ := bcell hC
      simp at hd
      refine ⟨by go_simp; done, ?_⟩
      go_simp
      first | (go_ints; exact rfl) | (go_ints; rw [if_pos (by omega)]; try exact rfl) | exact rfl | (rw [if_pos (by omega)]; try exact rfl)
    refine walkM_call (MP.eq (.int .i64 (rsignV p))) ?_ ?_
    · intro yq zq wq hC hd
      obtain ⟨hcq, hfq⟩ := bcell hC
      simp at hd
      refine ⟨by go_simp; done, ?_⟩
      apply Exists.intro
      apply Exists.intro
      constructor
      · go_simp
        exact ⟨rfl, rfl⟩
      · exact gives_eq (impl_sign _ p _ wq (Agg.below HX.out (by (repeat (first | (with_reducible exact Below.refl _ _) | ((with_reducible refine Below.set ?_ ?_ _); rotate_left; (simp <;> omega)) | (with_reducible refine Below.box_ ?_ _) | (with_reducible refine Below.next ?_ (by assumption)))))) V.out.mag (negOk_of V.out.num))
    refine walkM_eq (.bool false) ?_ ?_
    · intro yq zq wq hC hd
      obtain ⟨hcq, hfq⟩ := bcell hC
      simp at hd
      refine ⟨by go_simp; done, ?_⟩
      go_simp
      all_goals (try simp [*])
    iterate 2
      apply walkM_eq
      case h =>
        intro yq zq wq hC hd
        obtain ⟨hcq, hfq⟩ := bcell hC
        simp at hd
        refine ⟨by go_simp; done, ?_⟩
        go_simp
        first | (go_ints; exact rfl) | (go_ints; rw [if_pos (by omega)]; try exact rfl) | exact rfl | (rw [if_pos (by omega)]; try exact rfl)
    iterate 4
      apply walkM_skip
      case h =>
        intro yq zq wq hC hd
        simp at hd
        go_simp
        done
    iterate 2
      apply walkM_eq
      case h =>
        intro yq zq wq hC hd
        obtain ⟨hcq, hfq⟩ := bcell hC
        simp at hd
        refine ⟨by go_simp; done, ?_⟩
        go_simp
        first | (go_ints; exact rfl) | (go_ints; rw [if_pos (by omega)]; try exact rfl) | exact rfl | (rw [if_pos (by omega)]; try exact rfl)
    intro yq zq ux hC hd hdis0
    have hdis := hid hdis0
    clear hdis0
    simp at hd
    go_simp
    clear hd hdis
    go_wp2
    go_ret
    exact ⟨ret_bool E.out, by (repeat (first | (with_reducible exact Below.refl _ _) | ((with_reducible refine Below.set ?_ ?_ _); rotate_left; (simp <;> omega)) | (with_reducible refine Below.box_ ?_ _) | (with_reducible refine Below.next ?_ (by assumption))))⟩
  · have E := hid (show decide (rcmpV p (rint 1) ≤ 0) = partB p by unfold partB; rw [hr, decide_eq_true h]; simp)
    have V1 := hid (rint_ratV 1 (by decide) (by decide))
    clear hr
    go_enter Tryz.func32, Tryz.ntmps32
    go_wp2_with fail
    refine wp_region_walk (by kernel_rfl) (by kernel_rfl) (by kernel_rfl) ?_
    apply walkM_eq
    case h =>
      intro yq zq wq hC hd
      obtain ⟨hcq, hfq⟩ := bcell hC
      simp at hd
      refine ⟨by go_simp; done, ?_⟩
      go_simp
      first | (go_ints; exact rfl) | (go_ints; rw [if_pos (by omega)]; try exact rfl) | exact rfl | (rw [if_pos (by omega)]; try exact rfl)
    refine walkM_call (MP.eq (.bool true)) ?_ ?_
    · intro yq zq wq hC hd
      obtain ⟨hcq, hfq⟩ := bcell hC
      simp at hd
      refine ⟨by go_simp; done, ?_⟩
      apply Exists.intro
      apply Exists.intro
      constructor
      · go_simp
        exact ⟨rfl, rfl⟩
      · exact gives_eq (by have C := impl_RatOk _ p _ wq (Agg.below HX.out (by (repeat (first | (with_reducible exact Below.refl _ _) | ((with_reducible refine Below.set ?_ ?_ _); rotate_left; (simp <;> omega)) | (with_reducible refine Below.box_ ?_ _) | (with_reducible refine Below.next ?_ (by assumption)))))); rwa [R.out] at C)
    apply walkM_eq
    case h =>
      intro yq zq wq hC hd
      obtain ⟨hcq, hfq⟩ := bcell hC
      simp at hd
      refine ⟨by go_simp; done, ?_⟩
      go_simp
      first | (go_ints; exact rfl) | (go_ints; rw [if_pos (by omega)]; try exact rfl) | exact rfl | (rw [if_pos (by omega)]; try exact rfl)
    apply walkM_eq
    case h =>
      intro yq zq wq hC hd
      obtain ⟨hcq, hfq⟩ := bcell hC
      simp at hd
      refine ⟨by go_simp; done, ?_⟩
      go_simp
      first | (go_ints; exact rfl) | (go_ints; rw [if_pos (by omega)]; try exact rfl) | exact rfl | (rw [if_pos (by omega)]; try exact rfl)
    refine walkM_call (MP.eq (.int .i64 (rsignV p))) ?_ ?_
    · intro yq zq wq hC hd
      obtain ⟨hcq, hfq⟩ := bcell hC
      simp at hd
      refine ⟨by go_simp; done, ?_⟩
      apply Exists.intro
      apply Exists.intro
      constructor
      · go_simp
        exact ⟨rfl, rfl⟩
      · exact gives_eq (impl_sign _ p _ wq (Agg.below HX.out (by (repeat (first | (with_reducible exact Below.refl _ _) | ((with_reducible refine Below.set ?_ ?_ _); rotate_left; (simp <;> omega)) | (with_reducible refine Below.box_ ?_ _) | (with_reducible refine Below.next ?_ (by assumption)))))) V.out.mag (negOk_of V.out.num))
    refine walkM_eq (.bool true) ?_ ?_
    · intro yq zq wq hC hd
      obtain ⟨hcq, hfq⟩ := bcell hC
      simp at hd
      refine ⟨by go_simp; done, ?_⟩
      go_simp
      all_goals (try simp [*])
    iterate 3
      apply walkM_eq
      case h =>
        intro yq zq wq hC hd
        obtain ⟨hcq, hfq⟩ := bcell hC
        simp at hd
        refine ⟨by go_simp; done, ?_⟩
        go_simp
        first | (go_ints; exact rfl) | (go_ints; rw [if_pos (by omega)]; try exact rfl) | exact rfl | (rw [if_pos (by omega)]; try exact rfl)
    refine walkM_call (MP.agg (rint 1)) ?_ ?_
    · intro yq zq wq hC hd
      obtain ⟨hcq, hfq⟩ := bcell hC
      simp at hd
      refine ⟨by go_simp; done, ?_⟩
      apply Exists.intro
      apply Exists.intro
      constructor
      · go_simp
        exact ⟨rfl, rfl⟩
      · exact gives_agg (impl_RatFromInt 1 wq (by constructor <;> decide))
    refine walkM_call (MP.eq (.int .i64 (rcmpV p (rint 1)))) ?_ ?_
    · intro yq zq wq hC hd
      obtain ⟨hcq, hfq⟩ := bcell hC
      simp at hd
      refine ⟨by go_simp; done, ?_⟩
      apply Exists.intro
      apply Exists.intro
      constructor
      · go_simp
        exact ⟨rfl, rfl⟩
      · obtain ⟨_, ⟨t, _⟩, _⟩ := hd
        exact gives_eq (impl_compare _ _ p (rint 1) _ _ wq (Agg.below HX.out (by (repeat (first | (with_reducible exact Below.refl _ _) | ((with_reducible refine Below.set ?_ ?_ _); rotate_left; (simp <;> omega)) | (with_reducible refine Below.box_ ?_ _) | (with_reducible refine Below.next ?_ (by assumption)))))) t V.out V1.out)
    iterate 3
      apply walkM_eq
      case h =>
        intro yq zq wq hC hd
        obtain ⟨hcq, hfq⟩ := bcell hC
        simp at hd
        refine ⟨by go_simp; done, ?_⟩
        go_simp
        first | (go_ints; exact rfl) | (go_ints; rw [if_pos (by omega)]; try exact rfl) | exact rfl | (rw [if_pos (by omega)]; try exact rfl)
    intro yq zq ux hC hd hdis0
    have hdis := hid hdis0
    clear hdis0
    simp at hd
    go_simp
    clear hd hdis
    go_wp2
    go_ret
    exact ⟨ret_bool E.out, by (repeat (first | (with_reducible exact Below.refl _ _) | ((with_reducible refine Below.set ?_ ?_ _); rotate_left; (simp <;> omega)) | (with_reducible refine Below.box_ ?_ _) | (with_reducible refine Below.next ?_ (by assumption))))⟩

theorem known_areShares_1 : Known 34 := fun a w => by kernel_rfl
set_option maxHeartbeats 400000 in
theorem impl_areShares_1 (v : Value) (x : TRat) (b : List Nat) (w : World) (hx : Agg w v x b) (vx : RatV x) : Calls Tryz.prog 34 #[v] w (Gives w (.bool (decide (rsignV x < 0)))) := by
  have HX := hid hx
  have V := hid vx
  obtain ⟨A1, n1, c1, s1, A2, n2, c2, s2, rfl, rfl, hs1, hs2⟩ := TRat.agg hx
  clear hs1 hs2 hx vx
  go_enter Tryz.func34, Tryz.ntmps34
  go_wp2_with fail
  refine (impl_sign _ x _ _ (Agg.below HX.out (by (repeat (first | (with_reducible exact Below.refl _ _) | ((with_reducible refine Below.set ?_ ?_ _); rotate_left; (simp <;> omega)) | (with_reducible refine Below.box_ ?_ _) | (with_reducible refine Below.next ?_ (by assumption)))))) V.out.mag (negOk_of V.out.num)).mono ?_
  rintro _ w1 ⟨rfl, hb1⟩
  go_wp2
  go_ret
  exact ⟨rfl, by (repeat (first | (with_reducible exact Below.refl _ _) | ((with_reducible refine Below.set ?_ ?_ _); rotate_left; (simp <;> omega)) | (with_reducible refine Below.box_ ?_ _) | (with_reducible refine Below.next ?_ (by assumption))))⟩

set_option maxHeartbeats 1000000 in
theorem impl_areShares (A : Option Addr) (n c : Nat) (xs : List TRat) (bs : List Nat) (v : Value) (p : TRat) (b : List Nat) (w : World) (hx : Sl w A n c xs bs) (hp : Agg w v p b) :
    Calls Tryz.prog 15 #[.slice A n c, v] w (Gives w (.bool (sharesB xs p))) := by
  have HX := hid hx
  have HP := hid hp
  obtain ⟨A1, n1, c1, s1, A2, n2, c2, s2, rfl, rfl, hs1, hs2⟩ := TRat.agg hp
  clear hs1 hs2 hp hx
  cases hok : xs.all ratOkB
  · have E := hid (show false = sharesB xs p by unfold sharesB; rw [hok]; rfl)
    have OK := hid hok
    clear hok
    go_enter Tryz.func15, Tryz.ntmps15
    go_wp2_with fail
    have C := impl_areRats A n c xs _ (w.alloc (.cells #[.bool p.num.neg, .slice A1 n1 c1, .slice A2 n2 c2] 29)) (Sl.below HX.out (by (repeat (first | (with_reducible exact Below.refl _ _) | ((with_reducible refine Below.set ?_ ?_ _); rotate_left; (simp <;> omega)) | (with_reducible refine Below.box_ ?_ _) | (with_reducible refine Below.next ?_ (by assumption))))))
    rw [OK.out] at C
    refine C.mono ?_
    clear C
    rintro _ w1 ⟨rfl, hb1⟩
    obtain ⟨hc_w1, hf_w1⟩ := bcell hb1
    have hz0_w1 : w.heap.size < w1.heap.size := by have := hb1.size; (try simp at this); omega
    go_wp2
    go_ret
    exact ⟨ret_bool E.out, by (repeat (first | (with_reducible exact Below.refl _ _) | ((with_reducible refine Below.set ?_ ?_ _); rotate_left; (simp <;> omega)) | (with_reducible refine Below.box_ ?_ _) | (with_reducible refine Below.next ?_ (by assumption))))⟩
  cases hpp : partB p
  · have E := hid (show false = sharesB xs p by unfold sharesB; rw [hok, hpp]; rfl)
    have OK := hid hok; have P := hid hpp
    clear hok hpp
    go_enter Tryz.func15, Tryz.ntmps15
    go_wp2_with fail
    have C := impl_areRats A n c xs _ (w.alloc (.cells #[.bool p.num.neg, .slice A1 n1 c1, .slice A2 n2 c2] 29)) (Sl.below HX.out (by (repeat (first | (with_reducible exact Below.refl _ _) | ((with_reducible refine Below.set ?_ ?_ _); rotate_left; (simp <;> omega)) | (with_reducible refine Below.box_ ?_ _) | (with_reducible refine Below.next ?_ (by assumption))))))
    rw [OK.out] at C
    refine C.mono ?_
    clear C
    rintro _ w1 ⟨rfl, hb1⟩
    obtain ⟨hc_w1, hf_w1⟩ := bcell hb1
    have hz0_w1 : w.heap.size < w1.heap.size := by have := hb1.size; (try simp at this); omega
    go_wp2_with fail
    have C := impl_isPart _ p _ w1 (Agg.below HP.out (by (repeat (first | (with_reducible exact Below.refl _ _) | ((with_reducible refine Below.set ?_ ?_ _); rotate_left; (simp <;> omega)) | (with_reducible refine Below.box_ ?_ _) | (with_reducible refine Below.next ?_ (by assumption))))))
    rw [P.out] at C
    refine C.mono ?_
    clear C
    rintro _ w2 ⟨rfl, hb2⟩
    go_wp2
    go_ret
    exact ⟨ret_bool E.out, by (repeat (first | (with_reducible exact Below.refl _ _) | ((with_reducible refine Below.set ?_ ?_ _); rotate_left; (simp <;> omega)) | (with_reducible refine Below.box_ ?_ _) | (with_reducible refine Below.next ?_ (by assumption))))⟩
  have E := hid (show (!xs.any (fun r => decide (rsignV r < 0))) = sharesB xs p by unfold sharesB; rw [hok, hpp]; rfl)
  have OK := hid hok; have P := hid hpp
  have V := hid (fun x (hm : x ∈ xs) => ratOkB_iff.1 (List.all_eq_true.1 hok x hm))
  clear hok hpp
  go_enter Tryz.func15, Tryz.ntmps15
  go_wp2_with fail
  have C := impl_areRats A n c xs _ (w.alloc (.cells #[.bool p.num.neg, .slice A1 n1 c1, .slice A2 n2 c2] 29)) (Sl.below HX.out (by (repeat (first | (with_reducible exact Below.refl _ _) | ((with_reducible refine Below.set ?_ ?_ _); rotate_left; (simp <;> omega)) | (with_reducible refine Below.box_ ?_ _) | (with_reducible refine Below.next ?_ (by assumption))))))
  rw [OK.out] at C
  refine C.mono ?_
  clear C
  rintro _ w1 ⟨rfl, hb1⟩
  obtain ⟨hc_w1, hf_w1⟩ := bcell hb1
  have hz0_w1 : w.heap.size < w1.heap.size := by have := hb1.size; (try simp at this); omega
  go_wp2_with fail
  have C := impl_isPart _ p _ w1 (Agg.below HP.out (by (repeat (first | (with_reducible exact Below.refl _ _) | ((with_reducible refine Below.set ?_ ?_ _); rotate_left; (simp <;> omega)) | (with_reducible refine Below.box_ ?_ _) | (with_reducible refine Below.next ?_ (by assumption))))))
  rw [P.out] at C
  refine C.mono ?_
  clear C
  rintro _ w2 ⟨rfl, hb2⟩
  go_wp2_with fail
  refine (contains_rats 34 known_areShares_1 A n c xs bs _ (fun r => decide (rsignV r < 0)) (Sl.below HX.out (by (repeat (first | (with_reducible exact Below.refl _ _) | ((with_reducible refine Below.set ?_ ?_ _); rotate_left; (simp <;> omega)) | (with_reducible refine Below.box_ ?_ _) | (with_reducible refine Below.next ?_ (by assumption)))))) (fun v x b w hm h => impl_areShares_1 v x b w h (V.out x hm))).mono ?_
  rintro _ w3 ⟨rfl, hb3⟩
  generalize xs.any (fun r => decide (rsignV r < 0)) = an at *
  go_wp2
  go_ret
  exact ⟨ret_bool E.out, by (repeat (first | (with_reducible exact Below.refl _ _) | ((with_reducible refine Below.set ?_ ?_ _); rotate_left; (simp <;> omega)) | (with_reducible refine Below.box_ ?_ _) | (with_reducible refine Below.next ?_ (by assumption))))⟩

end Go.Proofs.YtleegelljgnlpaaGreat.X
