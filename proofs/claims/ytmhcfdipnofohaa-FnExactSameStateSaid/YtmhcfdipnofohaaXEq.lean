/- Two lists of ints, compared: laws.eqIntS, spec.l04List, slices.Equal at ints. -/
import Derived.Test.YtmhcfdipnofohaaRows
import Derived.Test.YtmhcfdipnofohaaXLib
import Derived.Test.YtmhcfdipnofohaaXRegion
import Derived.WalkLawsBesides
import Derived.ProofKit
import Derived.BigQuiet
import Derived.Deep.QuietTactic
namespace Go.Proofs.Ytmhcfdipnofohaa.X
open Go.RowKit Go.XB
set_option maxHeartbeats 400000 in
theorem laws_eqIntS (A A' : Option Addr) (n n' c c' : Nat) (xs ys : List Int) (bs bs' : List Nat) (w : World) (hx : Sl w A n c xs bs) (hy : Sl w A' n' c' ys bs') :
    Calls Try.prog 39 #[.slice A n c, .slice A' n' c'] w (Gives w (.bool (decide (xs = ys)))) := by
  have hn : n ≤ maxLen := Nat.le_trans hx.2.1 hx.2.2.1
  have hn' : n' ≤ maxLen := Nat.le_trans hy.2.1 hy.2.2.1
  have HL : Hid (xs.length = n) := hx.1
  have HL' : Hid (ys.length = n') := hy.1
  unfold maxLen at hn hn'
  have HX : Hid (Sl w A n c xs bs) := hx
  have HY : Hid (Sl w A' n' c' ys bs') := hy
  clear hx hy
  by_cases hne : n = n'
  · subst hne
    go_enter Try.func39, Try.ntmps39
    go_wp2
    go_loopw [5] (fun i wr => ∃ k : Nat, k ≤ n ∧ i = .int .i64 k ∧ Hid (xs.take k = ys.take k) ∧ ∃ m, wr = w.drewN m) (fun i wr => n - (intOf i).toNat)
    case atStart => exact ⟨0, Nat.zero_le _, rfl, rfl, 0, rfl⟩
    case round =>
      obtain ⟨k, hk, rfl, ht, m, rfl⟩ := hrel
      by_cases hlt : k < n
      · obtain ⟨b, off, x, rfl, hbl, hxk, _, hcx⟩ := Sl.getInt HX.out hlt
        obtain ⟨b', off', y, rfl, hbl', hyk, _, hcy⟩ := Sl.getInt HY.out hlt
        have HXk : Hid (xs[k]? = some x) := hxk
        have HYk : Hid (ys[k]? = some y) := hyk
        clear hxk hyk
        have hi1 : (0 : Int) ≤ k := by omega
        have hi2 : (k : Int) < n := by omega
        by_cases hxy : x = y
        · have hb : (x != y) = false := by simp [hxy]
          go_wp2
          go_quiet (fail)
          go_wp2
          go_roundw
          case rel => exact ⟨k + 1, by omega, by go_num, take_eq_step HXk.out HYk.out ht hxy, _, rfl⟩
          case measure => simp [intOf]; omega
        · have hb : (x != y) = true := by simp [hxy]
          go_wp2
          go_quiet (fail)
          go_wp2
          go_ret
          exact ⟨ret_bool (by simp [ne_at HXk.out HYk.out hxy]), ⟨rfl, rfl, rfl, Nat.le_refl _, fun _ _ => rfl⟩⟩
      · go_wp2
        go_ret
        exact ⟨ret_bool (by simp [take_all_eq HL.out HL'.out (by omega) ht.out]), ⟨rfl, rfl, rfl, Nat.le_refl _, fun _ _ => rfl⟩⟩
  · have hb : ((n : Int) != n') = true := by simp; omega
    go_enter Try.func39, Try.ntmps39
    go_wp2
    go_ret
    exact ⟨ret_bool (by
      have : xs ≠ ys := fun e => hne (by rw [← HL.out, ← HL'.out, e])
      simp [this]), Below.refl _ _⟩
set_option maxHeartbeats 400000 in
theorem spec_l04List (A A' : Option Addr) (n n' c c' : Nat) (xs ys : List Int) (bs bs' : List Nat) (w : World) (hx : Sl w A n c xs bs) (hy : Sl w A' n' c' ys bs') :
    Calls Try.prog 34 #[.slice A n c, .slice A' n' c'] w (Gives w (.bool (decide (xs = ys)))) := by
  have hn : n ≤ maxLen := Nat.le_trans hx.2.1 hx.2.2.1
  have hn' : n' ≤ maxLen := Nat.le_trans hy.2.1 hy.2.2.1
  have HL : Hid (xs.length = n) := hx.1
  have HL' : Hid (ys.length = n') := hy.1
  unfold maxLen at hn hn'
  have HX : Hid (Sl w A n c xs bs) := hx
  have HY : Hid (Sl w A' n' c' ys bs') := hy
  clear hx hy
  by_cases hne : n = n'
  · subst hne
    go_enter Try.func34, Try.ntmps34
    go_wp2
    go_loopw [5, 13] (fun _ i wr => ∃ k : Nat, k ≤ n ∧ i = .int .i64 k ∧ Hid (xs.take k = ys.take k) ∧ ∃ m, wr = w.drewN m) (fun _ i wr => n - (intOf i).toNat)
    case atStart => exact ⟨0, Nat.zero_le _, rfl, rfl, 0, rfl⟩
    case round =>
      obtain ⟨k, hk, rfl, ht, m, rfl⟩ := hrel
      by_cases hlt : k < n
      · obtain ⟨b, off, x, rfl, hbl, hxk, _, hcx⟩ := Sl.getInt HX.out hlt
        obtain ⟨b', off', y, rfl, hbl', hyk, _, hcy⟩ := Sl.getInt HY.out hlt
        have HXk : Hid (xs[k]? = some x) := hxk
        have HYk : Hid (ys[k]? = some y) := hyk
        clear hxk hyk
        have hi1 : (0 : Int) ≤ k := by omega
        have hi2 : (k : Int) < n := by omega
        by_cases hxy : x = y
        · have hb : (x != y) = false := by simp [hxy]
          go_wp2
          go_quiet (fail)
          go_wp2
          go_roundw
          case rel => exact ⟨k + 1, by omega, by go_num, take_eq_step HXk.out HYk.out ht hxy, _, rfl⟩
          case measure => simp [intOf]; omega
        · have hb : (x != y) = true := by simp [hxy]
          go_wp2
          go_quiet (fail)
          go_wp2
          go_ret
          exact ⟨ret_bool (by simp [ne_at HXk.out HYk.out hxy]), ⟨rfl, rfl, rfl, Nat.le_refl _, fun _ _ => rfl⟩⟩
      · go_wp2
        go_ret
        exact ⟨ret_bool (by simp [take_all_eq HL.out HL'.out (by omega) ht.out]), ⟨rfl, rfl, rfl, Nat.le_refl _, fun _ _ => rfl⟩⟩
  · have hb : ((n : Int) != n') = true := by simp; omega
    go_enter Try.func34, Try.ntmps34
    go_wp2
    go_ret
    exact ⟨ret_bool (by
      have : xs ≠ ys := fun e => hne (by rw [← HL.out, ← HL'.out, e])
      simp [this]), Below.refl _ _⟩
set_option maxHeartbeats 400000 in
theorem slices_Equal_int_int (A A' : Option Addr) (n n' c c' : Nat) (xs ys : List Int) (bs bs' : List Nat) (w : World) (hx : Sl w A n c xs bs) (hy : Sl w A' n' c' ys bs') :
    Calls Try.prog 37 #[.slice A n c, .slice A' n' c'] w (Gives w (.bool (decide (xs = ys)))) := by
  have hn : n ≤ maxLen := Nat.le_trans hx.2.1 hx.2.2.1
  have hn' : n' ≤ maxLen := Nat.le_trans hy.2.1 hy.2.2.1
  have HL : Hid (xs.length = n) := hx.1
  have HL' : Hid (ys.length = n') := hy.1
  unfold maxLen at hn hn'
  have HX : Hid (Sl w A n c xs bs) := hx
  have HY : Hid (Sl w A' n' c' ys bs') := hy
  clear hx hy
  by_cases hne : n = n'
  · subst hne
    go_enter Try.func37, Try.ntmps37
    go_wp2
    go_loopw [5, 13] (fun _ i wr => ∃ k : Nat, k ≤ n ∧ i = .int .i64 k ∧ Hid (xs.take k = ys.take k) ∧ ∃ m, wr = w.drewN m) (fun _ i wr => n - (intOf i).toNat)
    case atStart => exact ⟨0, Nat.zero_le _, rfl, rfl, 0, rfl⟩
    case round =>
      obtain ⟨k, hk, rfl, ht, m, rfl⟩ := hrel
      by_cases hlt : k < n
      · obtain ⟨b, off, x, rfl, hbl, hxk, _, hcx⟩ := Sl.getInt HX.out hlt
        obtain ⟨b', off', y, rfl, hbl', hyk, _, hcy⟩ := Sl.getInt HY.out hlt
        have HXk : Hid (xs[k]? = some x) := hxk
        have HYk : Hid (ys[k]? = some y) := hyk
        clear hxk hyk
        have hi1 : (0 : Int) ≤ k := by omega
        have hi2 : (k : Int) < n := by omega
        by_cases hxy : x = y
        · have hb : (x != y) = false := by simp [hxy]
          go_wp2
          go_quiet (fail)
          go_wp2
          go_roundw
          case rel => exact ⟨k + 1, by omega, by go_num, take_eq_step HXk.out HYk.out ht hxy, _, rfl⟩
          case measure => simp [intOf]; omega
        · have hb : (x != y) = true := by simp [hxy]
          go_wp2
          go_quiet (fail)
          go_wp2
          go_ret
          exact ⟨ret_bool (by simp [ne_at HXk.out HYk.out hxy]), ⟨rfl, rfl, rfl, Nat.le_refl _, fun _ _ => rfl⟩⟩
      · go_wp2
        go_ret
        exact ⟨ret_bool (by simp [take_all_eq HL.out HL'.out (by omega) ht.out]), ⟨rfl, rfl, rfl, Nat.le_refl _, fun _ _ => rfl⟩⟩
  · have hb : ((n : Int) != n') = true := by simp; omega
    go_enter Try.func37, Try.ntmps37
    go_wp2
    go_ret
    exact ⟨ret_bool (by
      have : xs ≠ ys := fun e => hne (by rw [← HL.out, ← HL'.out, e])
      simp [this]), Below.refl _ _⟩
end Go.Proofs.Ytmhcfdipnofohaa.X
