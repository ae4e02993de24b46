/- laws.toIntS: a new slice of the same ints. laws.szIntS. Condition of the first: at most 1048576 ints. -/
import Derived.Test.YtmhcfdipnofohaaRows
import Derived.Test.YtmhcfdipnofohaaXOwn
import Derived.WalkLawsBesides
import Derived.ProofKit
namespace Go.Proofs.Ytmhcfdipnofohaa.X
open Go.RowKit Go.XB

theorem infoInt : (Try.prog.info? 3).map (fun i => (i.zero, i.size, i.bytes)) = some (some (.int .i64 0), 1, 8) := by kernel_rfl

theorem take_set_map {xs : List Int} {cells : List Value} {k : Nat} {x : Int} (hx : xs[k]? = some x) (h : cells.take k = (xs.take k).map (.int .i64)) (hl : k < cells.length) :
    (cells.set k (.int .i64 x)).take (k + 1) = (xs.take (k + 1)).map (.int .i64) := by
  rw [List.take_add_one, List.take_add_one, List.map_append, ← h, hx]
  simp [List.take_set_of_le, hl]

set_option maxHeartbeats 400000 in
theorem laws_toIntS (A : Option Addr) (n c : Nat) (xs : List Int) (bs : List Nat) (w : World) (hx : Sl w A n c xs bs) (hsz : n ≤ 1048576) :
    Calls Try.prog 36 #[.slice A n c] w (GivesSl w xs) := by
  have HL : Hid (xs.length = n) := hx.1
  have HX : Hid (Sl w A n c xs bs) := hx
  obtain ⟨i0, hi, hz0, hz1, hz2⟩ := info_parts infoInt
  have hlt64 : ∀ x ∈ xs, I64 x := by
    intro x hxm
    obtain ⟨k, hk⟩ := List.mem_iff_getElem?.1 hxm
    obtain ⟨_, _, y, _, _, hy, hI, _⟩ := Sl.getInt hx (k := k) (by have := (List.getElem?_eq_some_iff.1 hk).1; rw [← hx.1]; exact this)
    rw [hk] at hy; cases hy; exact hI
  have H64 : Hid (∀ x ∈ xs, I64 x) := hlt64
  clear hlt64 hx
  go_enter Try.func36, Try.ntmps36
  go_wp2_with (first | (at_make; refine wpList_make_full _ rfl _ _ 24 rfl w.heap.size 3 i0 (.int .i64 0) 1 Try.underlying24 hi hz0 hz1 .i64 .i64 _ _ n rfl rfl rfl rfl (by rw [hz2]; omega) (by unfold maxLen; omega) (Nat.le_refl _) ?_; intro w1 hown hgrow))
  go_loopw [4] (fun i wr => ∃ (k : Nat) (cells : List Value), k ≤ n ∧ i = .int .i64 k ∧ wr.ownsRow w.heap.size 3 1 (.slice (some ⟨w.heap.size, 0, none⟩) n n) n cells ∧ Hid (cells.take k = (xs.take k).map (.int .i64)) ∧ Below w.heap.size w wr) (fun i _ => n - (intOf i).toNat)
  case atStart => exact ⟨0, _, Nat.zero_le _, rfl, hown, rfl, (Below.refl _ _).grown hgrow (Nat.le_refl _) (by simp)⟩
  case round =>
    obtain ⟨k, cells, hk, rfl, hown, ht, hb⟩ := hrel
    clear hgrow
    by_cases hlt : k < n
    · obtain ⟨b, off, x, rfl, hbl, hxk, _, hcx⟩ := Sl.getInt (HX.out.below hb) hlt
      have HXk : Hid (xs[k]? = some x) := hxk
      have hcl : k < cells.length := by rw [hown.1]; omega
      have hg1 := World.ownsRow.cellAt hown k (by omega)
      have hg2 := World.ownsRow.frozenAt hown k
      have hst := World.ownsRow.stored hown k (.int .i64 x)
      rw [List.getElem?_eq_getElem hcl] at hg1
      have HOwn := hid hown
      have HSt := hid hst
      clear hxk hown hst
      go_wp2
      go_roundw
      case rel => exact ⟨k + 1, _, by omega, by go_num, HSt.out.1, take_set_map HXk.out ht.out hcl, hb.setCell (Nat.le_refl _) _⟩
      case measure => simp [intOf]; omega
    · obtain rfl : k = n := by omega
      go_wp2
      go_ret
      have ht' := ht.out
      rw [List.take_of_length_le (Nat.le_of_eq HL.out)] at ht'
      obtain ⟨A', c', bs', hv, hs, ho⟩ := (Filled.ints (w := _) (cells := cells) (xs := xs) (by rw [HL.out]; exact ht') H64.out (by rw [hown.1, HL.out]; omega)).sl hown HL.out
      refine ⟨A', k, c', bs', by rw [← hv]; rfl, hs, own_of_row (n := k) (fss := List.replicate xs.length []) ?_ (by rw [flatten_nils]; exact Own.nil _ _), hb⟩
      rcases ho with ho | ⟨g, h1, h2, h3, h4⟩
      · exact .inl ho
      · exact .inr ⟨g, h2, h3, h4, by rw [flatten_nils]; simp⟩

end Go.Proofs.Ytmhcfdipnofohaa.X
