/- The walks of the two functions SumOfText: each returns the fold of the bytes, and nothing in memory changes. No condition but that the string's length fits an int. -/
import Derived.Test.YtmhcfdipnofohaaRows
import Derived.WalkKit
import Derived.ProofKit
import Derived.OpenShut
import Derived.ShutString
namespace Go.Proofs.Ytmhcfdipnofohaa.SumText
open Go.RowKit

def hash (l : List UInt8) : Int := l.foldl (fun h c => (31 * h + (c.toNat : Int)) % 65521) 7

theorem hash_bd (l : List UInt8) : 0 ≤ hash l ∧ hash l ≤ 65520 := by
  have key : ∀ (l : List UInt8) (h : Int), 0 ≤ h → h ≤ 65520 → 0 ≤ l.foldl (fun h c => (31 * h + (c.toNat : Int)) % 65521) h ∧ l.foldl (fun h c => (31 * h + (c.toNat : Int)) % 65521) h ≤ 65520 := by
    intro l
    induction l with
    | nil => intro h h0 h1; exact ⟨h0, h1⟩
    | cons c l ih => intro h h0 h1; exact ih _ (by show 0 ≤ (31 * h + (c.toNat : Int)) % 65521; omega) (by show (31 * h + (c.toNat : Int)) % 65521 ≤ 65520; omega)
  exact key l 7 (by omega) (by omega)

theorem hash_snoc (s : ByteArray) (k : Nat) (h : k < s.size) :
    hash (s.data.toList.take (k + 1)) = (31 * hash (s.data.toList.take k) + (s[k].toNat : Int)) % 65521 := by
  have e : s.data.toList.take (k + 1) = s.data.toList.take k ++ [s[k]] := by
    rw [List.take_succ_eq_append_getElem (by simpa using h)]; rfl
  rw [e]; unfold hash; rw [List.foldl_append]; rfl

theorem ret_int {k : IntKind} {a b : Int} (h : a = b) : Ending.returned (.int k a) = .returned (.int k b) := by rw [h]

set_option maxHeartbeats 400000 in
theorem spec_any (s : ByteArray) (w : World) (hs : s.size ≤ maxLen) :
    Calls Try.prog 6 #[.string s] w fun e w' => e = .returned (.int .i64 (hash s.data.toList)) ∧ w' = w := by
  unfold maxLen at hs
  go_enter Try.func6, Try.ntmps6
  go_wp2
  go_loop [3, 4] (fun n i => ∃ k : Nat, k ≤ s.size ∧ i = .int .i64 k ∧ n = .int .i64 (hash (s.data.toList.take k))) (fun _ i => s.size - (intOf i).toNat)
  case atStart => exact ⟨0, Nat.zero_le _, rfl, rfl⟩
  case round =>
    obtain ⟨k, hk, rfl, rfl⟩ := hrel
    have hd := hash_bd (s.data.toList.take k)
    by_cases hlt : k < s.size
    · have hsn := hash_snoc s k hlt
      have HS : Hid (hash (s.data.toList.take (k + 1)) = (31 * hash (s.data.toList.take k) + (s[k].toNat : Int)) % 65521) := hsn
      clear hsn
      have hb : (s[k].toNat : Int) < 256 := by have := s[k].toNat_lt; omega
      go_wp2
      go_round
      case rel => exact ⟨k + 1, by omega, by go_num, by rw [HS.out]⟩
      case measure => simp [intOf]; omega
    · go_wp2
      go_ret
      exact ⟨ret_int (by rw [List.take_of_length_le (by simp; omega)]), rfl⟩

set_option maxHeartbeats 400000 in
theorem impl_any (s : ByteArray) (w : World) (hs : s.size ≤ maxLen) :
    Calls Try.prog 7 #[.string s] w fun e w' => e = .returned (.int .i64 (hash s.data.toList)) ∧ w' = w := by
  unfold maxLen at hs
  go_enter Try.func7, Try.ntmps7
  go_wp2
  go_loop [3, 7] (fun n i => ∃ k : Nat, k ≤ s.size ∧ i = .int .i64 k ∧ n = .int .i64 (hash (s.data.toList.take k))) (fun _ i => s.size - (intOf i).toNat)
  case atStart => exact ⟨0, Nat.zero_le _, rfl, rfl⟩
  case round =>
    obtain ⟨k, hk, rfl, rfl⟩ := hrel
    have hd := hash_bd (s.data.toList.take k)
    by_cases hlt : k < s.size
    · have hsn := hash_snoc s k hlt
      have HS : Hid (hash (s.data.toList.take (k + 1)) = (31 * hash (s.data.toList.take k) + (s[k].toNat : Int)) % 65521) := hsn
      clear hsn
      have hb : (s[k].toNat : Int) < 256 := by have := s[k].toNat_lt; omega
      go_wp2
      go_round
      case rel => exact ⟨k + 1, by omega, by go_num, by rw [HS.out]⟩
      case measure => simp [intOf]; omega
    · go_wp2
      go_ret
      exact ⟨ret_int (by rw [List.take_of_length_le (by simp; omega)]), rfl⟩

end Go.Proofs.Ytmhcfdipnofohaa.SumText
