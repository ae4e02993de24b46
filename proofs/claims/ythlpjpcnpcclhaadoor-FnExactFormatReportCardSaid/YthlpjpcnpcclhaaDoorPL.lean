/- What the laws use: sizes, copies, comparisons, readers. No condition. -/
import Derived.Test.YthlpjpcnpcclhaaDoorRows
import Derived.Test.YthlpjpcnpcclhaaDoorP1
import Derived.WalkLawsBesides
import Derived.ProofKit
import Derived.Test.YthlpjpcnpcclhaaDoorP2
import Derived.BigQuiet
import Derived.Deep.QuietTactic
import Derived.Deep.Slices
import Derived.KernelRfl
/- laws.toIntS: a new slice of the same ints. laws.szIntS. Condition of the first: at most 1048576 ints. -/
namespace Go.Proofs.YthlpjpcnpcclhaaDoor.X
open Go.RowKit Go.XB

theorem infoInt : (Tryd.prog.info? 3).map (fun i => (i.zero, i.size, i.bytes)) = some (some (.int .i64 0), 1, 8) := by kernel_rfl

theorem take_set_map {xs : List Int} {cells : List Value} {k : Nat} {x : Int} (hx : xs[k]? = some x) (h : cells.take k = (xs.take k).map (.int .i64)) (hl : k < cells.length) :
    (cells.set k (.int .i64 x)).take (k + 1) = (xs.take (k + 1)).map (.int .i64) := by
  rw [List.take_add_one, List.take_add_one, List.map_append, ← h, hx]
  simp [List.take_set_of_le, hl]

set_option maxHeartbeats 400000 in
theorem laws_toIntS (A : Option Addr) (n c : Nat) (xs : List Int) (bs : List Nat) (w : World) (hx : Sl w A n c xs bs) (hsz : n ≤ 1048576) :
    Calls Tryd.prog 33 #[.slice A n c] w (GivesSl w xs) := by
  have HL : Hid (xs.length = n) := hx.1
  have HX : Hid (Sl w A n c xs bs) := hx
  obtain ⟨i0, hi, hz0, hz1, hz2⟩ := info_parts infoInt
  have hlt64 : ∀ x ∈ xs, I64 x := by
    intro x hxm
    obtain ⟨k, hk⟩ := List.mem_iff_getElem?.1 hxm
    obtain ⟨_, _, y, _, _, hy, hI, _⟩ := Sl.getInt hx (k := k) (by have := (List.getElem?_eq_some_iff.1 hk).1; rw [← hx.1]; exact this)
    rw [hk] at hy; cases hy; exact hI
  have H64 : Hid (∀ x ∈ xs, I64 x) := hlt64
  clear hlt64 hx
  go_enter Tryd.func33, Tryd.ntmps33
  go_wp2_with (first | (at_make; refine wpList_make_full _ rfl _ _ 22 rfl w.heap.size 3 i0 (.int .i64 0) 1 Tryd.underlying22 hi hz0 hz1 .i64 .i64 _ _ n rfl rfl rfl rfl (by rw [hz2]; omega) (by unfold maxLen; omega) (Nat.le_refl _) ?_; intro w1 hown hgrow))
  go_loopw [4] (fun i wr => ∃ (k : Nat) (cells : List Value), k ≤ n ∧ i = .int .i64 k ∧ wr.ownsRow w.heap.size 3 1 (.slice (some ⟨w.heap.size, 0, none⟩) n n) n cells ∧ Hid (cells.take k = (xs.take k).map (.int .i64)) ∧ Below w.heap.size w wr) (fun i _ => n - (intOf i).toNat)
  case atStart => exact ⟨0, _, Nat.zero_le _, rfl, hown, rfl, (Below.refl _ _).grown hgrow (Nat.le_refl _) (by simp)⟩
  case round =>
    obtain ⟨k, cells, hk, rfl, hown, ht, hb⟩ := hrel
    clear hgrow
    by_cases hlt : k < n
    · obtain ⟨b, off, x, rfl, hbl, hxk, _, hcx⟩ := Sl.getInt (HX.out.below hb) hlt
      have HXk : Hid (xs[k]? = some x) := hxk
      have hcl : k < cells.length := by rw [hown.1]; omega
      have hg1 := World.ownsRow.cellAt hown k (by omega)
      have hg2 := World.ownsRow.frozenAt hown k
      have hst := World.ownsRow.stored hown k (.int .i64 x)
      rw [List.getElem?_eq_getElem hcl] at hg1
      have HOwn := hid hown
      have HSt := hid hst
      clear hxk hown hst
      go_wp2
      go_roundw
      case rel => exact ⟨k + 1, _, by omega, by go_num, HSt.out.1, take_set_map HXk.out ht.out hcl, hb.setCell (Nat.le_refl _) _⟩
      case measure => simp [intOf]; omega
    · obtain rfl : k = n := by omega
      go_wp2
      go_ret
      have ht' := ht.out
      rw [List.take_of_length_le (Nat.le_of_eq HL.out)] at ht'
      obtain ⟨A', c', bs', hv, hs, ho⟩ := (Filled.ints (w := _) (cells := cells) (xs := xs) (by rw [HL.out]; exact ht') H64.out (by rw [hown.1, HL.out]; omega)).sl hown HL.out
      refine ⟨A', k, c', bs', by rw [← hv]; rfl, hs, own_of_row (n := k) (fss := List.replicate xs.length []) ?_ (by rw [flatten_nils]; exact Own.nil _ _), hb⟩
      rcases ho with ho | ⟨g, h1, h2, h3, h4⟩
      · exact .inl ho
      · exact .inr ⟨g, h2, h3, h4, by rw [flatten_nils]; simp⟩

end Go.Proofs.YthlpjpcnpcclhaaDoor.X

/- Two lists of ints, compared: laws.eqIntS, spec.l04List, slices.Equal at ints. -/
namespace Go.Proofs.YthlpjpcnpcclhaaDoor.X
open Go.RowKit Go.XB
set_option maxHeartbeats 400000 in
theorem laws_eqIntS (A A' : Option Addr) (n n' c c' : Nat) (xs ys : List Int) (bs bs' : List Nat) (w : World) (hx : Sl w A n c xs bs) (hy : Sl w A' n' c' ys bs') :
    Calls Tryd.prog 41 #[.slice A n c, .slice A' n' c'] w (Gives w (.bool (decide (xs = ys)))) := by
  have hn : n ≤ maxLen := Nat.le_trans hx.2.1 hx.2.2.1
  have hn' : n' ≤ maxLen := Nat.le_trans hy.2.1 hy.2.2.1
  have HL : Hid (xs.length = n) := hx.1
  have HL' : Hid (ys.length = n') := hy.1
  unfold maxLen at hn hn'
  have HX : Hid (Sl w A n c xs bs) := hx
  have HY : Hid (Sl w A' n' c' ys bs') := hy
  clear hx hy
  by_cases hne : n = n'
  · subst hne
    go_enter Tryd.func41, Tryd.ntmps41
    go_wp2
    go_loopw [5] (fun i wr => ∃ k : Nat, k ≤ n ∧ i = .int .i64 k ∧ Hid (xs.take k = ys.take k) ∧ ∃ m, wr = w.drewN m) (fun i wr => n - (intOf i).toNat)
    case atStart => exact ⟨0, Nat.zero_le _, rfl, rfl, 0, rfl⟩
    case round =>
      obtain ⟨k, hk, rfl, ht, m, rfl⟩ := hrel
      by_cases hlt : k < n
      · obtain ⟨b, off, x, rfl, hbl, hxk, _, hcx⟩ := Sl.getInt HX.out hlt
        obtain ⟨b', off', y, rfl, hbl', hyk, _, hcy⟩ := Sl.getInt HY.out hlt
        have HXk : Hid (xs[k]? = some x) := hxk
        have HYk : Hid (ys[k]? = some y) := hyk
        clear hxk hyk
        have hi1 : (0 : Int) ≤ k := by omega
        have hi2 : (k : Int) < n := by omega
        by_cases hxy : x = y
        · have hb : (x != y) = false := by simp [hxy]
          go_wp2
          go_quiet (fail)
          go_wp2
          go_roundw
          case rel => exact ⟨k + 1, by omega, by go_num, take_eq_step HXk.out HYk.out ht hxy, _, rfl⟩
          case measure => simp [intOf]; omega
        · have hb : (x != y) = true := by simp [hxy]
          go_wp2
          go_quiet (fail)
          go_wp2
          go_ret
          exact ⟨ret_bool (by simp [ne_at HXk.out HYk.out hxy]), ⟨rfl, rfl, rfl, Nat.le_refl _, fun _ _ => rfl⟩⟩
      · go_wp2
        go_ret
        exact ⟨ret_bool (by simp [take_all_eq HL.out HL'.out (by omega) ht.out]), ⟨rfl, rfl, rfl, Nat.le_refl _, fun _ _ => rfl⟩⟩
  · have hb : ((n : Int) != n') = true := by simp; omega
    go_enter Tryd.func41, Tryd.ntmps41
    go_wp2
    go_ret
    exact ⟨ret_bool (by
      have : xs ≠ ys := fun e => hne (by rw [← HL.out, ← HL'.out, e])
      simp [this]), Below.refl _ _⟩
end Go.Proofs.YthlpjpcnpcclhaaDoor.X

/- The budget of the laws' arguments: laws.sz... Written by gen_law.py. -/
namespace Go.Proofs.YthlpjpcnpcclhaaDoor.X
open Go.RowKit Go.XB
attribute [local go_sem] fillBy opAt deps depOf Region.wanted yielded
attribute [local simp] deps depOf MP.eq Facts
set_option maxHeartbeats 400000 in
theorem laws_szBigInt (v : Value) (x : TBigInt) (bs : List Nat) (left : Int) (w : World) (hx : Agg w v x bs) (h0 : 0 ≤ left) (h1 : left ≤ 1048576) :
    Calls Tryd.prog 24 #[v, .int .i64 left] w (Gives w (.int .i64 (minus left x.cnt))) := by
  obtain ⟨A1, nA1, cA1, sA1, rfl, rfl, w1⟩ := TBigInt.agg hx
  have W1 := hid w1
  clear hx w1
  unfold TBigInt.cnt
  have h0a := h0; have h0b := h1
  rcases minus_cases left (x.mag.length) with ⟨k0, e0, l0⟩ | ⟨k0, e0, l0⟩
  · have E0 := hid e0
    have L0 := hid l0
    clear e0 l0
    go_enter Tryd.func24, Tryd.ntmps24
    go_wp2_with fail
    refine (laws_szIntS _ _ _ x.mag _ left _ (Sl.below W1.out (by (repeat (first | (with_reducible exact Below.refl _ _) | ((with_reducible refine Below.set ?_ ?_ _); rotate_left; (simp <;> omega)) | (with_reducible refine Below.box_ ?_ _) | (with_reducible refine Below.next ?_ (by assumption)))))) h0a h0b).mono ?_
    rintro e u0 ⟨rfl, hb0⟩
    obtain ⟨hc0, hf0⟩ := bcell hb0
    have hz0 : w.heap.size < u0.heap.size := by have := hb0.size; (try simp at this); omega
    go_wp2
    go_ret
    exact ⟨by have := L0.out; rw [minus_neg (show left < (((x.mag.length) : Nat) : Int) by omega)]; rfl, by (repeat (first | (with_reducible exact Below.refl _ _) | ((with_reducible refine Below.set ?_ ?_ _); rotate_left; (simp <;> omega)) | (with_reducible refine Below.box_ ?_ _) | (with_reducible refine Below.next ?_ (by assumption))))⟩
  · have E0 := hid e0
    have L0 := hid l0
    have h1a : 0 ≤ minus left (x.mag.length) := k0
    have h1b : minus left (x.mag.length) ≤ 1048576 := by omega
    clear e0 l0
    go_enter Tryd.func24, Tryd.ntmps24
    go_wp2_with fail
    refine (laws_szIntS _ _ _ x.mag _ left _ (Sl.below W1.out (by (repeat (first | (with_reducible exact Below.refl _ _) | ((with_reducible refine Below.set ?_ ?_ _); rotate_left; (simp <;> omega)) | (with_reducible refine Below.box_ ?_ _) | (with_reducible refine Below.next ?_ (by assumption)))))) h0a h0b).mono ?_
    rintro e u0 ⟨rfl, hb0⟩
    obtain ⟨hc0, hf0⟩ := bcell hb0
    have hz0 : w.heap.size < u0.heap.size := by have := hb0.size; (try simp at this); omega
    go_wp2
    go_ret
    have L0' := L0.out; have E0' := E0.out
    have hm := minus_pos (left := left) (n := (x.mag.length)) (by omega)
    exact ⟨ret_int (by omega), by (repeat (first | (with_reducible exact Below.refl _ _) | ((with_reducible refine Below.set ?_ ?_ _); rotate_left; (simp <;> omega)) | (with_reducible refine Below.box_ ?_ _) | (with_reducible refine Below.next ?_ (by assumption))))⟩
set_option maxHeartbeats 400000 in
theorem laws_szRat (v : Value) (x : TRat) (bs : List Nat) (left : Int) (w : World) (hx : Agg w v x bs) (h0 : 0 ≤ left) (h1 : left ≤ 1048576) :
    Calls Tryd.prog 15 #[v, .int .i64 left] w (Gives w (.int .i64 (minus left x.cnt))) := by
  obtain ⟨A1, nA1, cA1, sA1, A2, nA2, cA2, sA2, rfl, rfl, w1, w2⟩ := TRat.agg hx
  have W1 := hid w1
  have W2 := hid w2
  clear hx w1 w2
  unfold TRat.cnt
  have h0a := h0; have h0b := h1
  rcases minus_cases left (x.num.cnt) with ⟨k0, e0, l0⟩ | ⟨k0, e0, l0⟩
  · have E0 := hid e0
    have L0 := hid l0
    clear e0 l0
    go_enter Tryd.func15, Tryd.ntmps15
    go_wp2_with fail
    refine (laws_szBigInt _ x.num _ left _ (TBigInt.mkAgg (Sl.below W1.out (by (repeat (first | (with_reducible exact Below.refl _ _) | ((with_reducible refine Below.set ?_ ?_ _); rotate_left; (simp <;> omega)) | (with_reducible refine Below.box_ ?_ _) | (with_reducible refine Below.next ?_ (by assumption))))))) h0a h0b).mono ?_
    rintro e u0 ⟨rfl, hb0⟩
    obtain ⟨hc0, hf0⟩ := bcell hb0
    have hz0 : w.heap.size < u0.heap.size := by have := hb0.size; (try simp at this); omega
    go_wp2
    go_ret
    exact ⟨by have := L0.out; rw [minus_neg (show left < (((x.num.cnt) + (x.den.length) : Nat) : Int) by omega)]; rfl, by (repeat (first | (with_reducible exact Below.refl _ _) | ((with_reducible refine Below.set ?_ ?_ _); rotate_left; (simp <;> omega)) | (with_reducible refine Below.box_ ?_ _) | (with_reducible refine Below.next ?_ (by assumption))))⟩
  · have E0 := hid e0
    have L0 := hid l0
    have h1a : 0 ≤ minus left (x.num.cnt) := k0
    have h1b : minus left (x.num.cnt) ≤ 1048576 := by omega
    clear e0 l0
    rcases minus_cases (minus left (x.num.cnt)) (x.den.length) with ⟨k1, e1, l1⟩ | ⟨k1, e1, l1⟩
    · have E1 := hid e1
      have L1 := hid l1
      clear e1 l1
      go_enter Tryd.func15, Tryd.ntmps15
      go_wp2_with fail
      refine (laws_szBigInt _ x.num _ left _ (TBigInt.mkAgg (Sl.below W1.out (by (repeat (first | (with_reducible exact Below.refl _ _) | ((with_reducible refine Below.set ?_ ?_ _); rotate_left; (simp <;> omega)) | (with_reducible refine Below.box_ ?_ _) | (with_reducible refine Below.next ?_ (by assumption))))))) h0a h0b).mono ?_
      rintro e u0 ⟨rfl, hb0⟩
      obtain ⟨hc0, hf0⟩ := bcell hb0
      have hz0 : w.heap.size < u0.heap.size := by have := hb0.size; (try simp at this); omega
      go_wp2_with fail
      refine (laws_szIntS _ _ _ x.den _ (minus left (x.num.cnt)) _ (Sl.below W2.out (by (repeat (first | (with_reducible exact Below.refl _ _) | ((with_reducible refine Below.set ?_ ?_ _); rotate_left; (simp <;> omega)) | (with_reducible refine Below.box_ ?_ _) | (with_reducible refine Below.next ?_ (by assumption)))))) h1a h1b).mono ?_
      rintro e u1 ⟨rfl, hb1⟩
      obtain ⟨hc1, hf1⟩ := bcell hb1
      have hz1 : w.heap.size < u1.heap.size := by have := hb1.size; (try simp at this); omega
      go_wp2
      go_ret
      exact ⟨by have := L1.out; have := E0.out; rw [minus_neg (show left < (((x.num.cnt) + (x.den.length) : Nat) : Int) by omega)]; rfl, by (repeat (first | (with_reducible exact Below.refl _ _) | ((with_reducible refine Below.set ?_ ?_ _); rotate_left; (simp <;> omega)) | (with_reducible refine Below.box_ ?_ _) | (with_reducible refine Below.next ?_ (by assumption))))⟩
    · have E1 := hid e1
      have L1 := hid l1
      have h2a : 0 ≤ minus (minus left (x.num.cnt)) (x.den.length) := k1
      have h2b : minus (minus left (x.num.cnt)) (x.den.length) ≤ 1048576 := by omega
      clear e1 l1
      go_enter Tryd.func15, Tryd.ntmps15
      go_wp2_with fail
      refine (laws_szBigInt _ x.num _ left _ (TBigInt.mkAgg (Sl.below W1.out (by (repeat (first | (with_reducible exact Below.refl _ _) | ((with_reducible refine Below.set ?_ ?_ _); rotate_left; (simp <;> omega)) | (with_reducible refine Below.box_ ?_ _) | (with_reducible refine Below.next ?_ (by assumption))))))) h0a h0b).mono ?_
      rintro e u0 ⟨rfl, hb0⟩
      obtain ⟨hc0, hf0⟩ := bcell hb0
      have hz0 : w.heap.size < u0.heap.size := by have := hb0.size; (try simp at this); omega
      go_wp2_with fail
      refine (laws_szIntS _ _ _ x.den _ (minus left (x.num.cnt)) _ (Sl.below W2.out (by (repeat (first | (with_reducible exact Below.refl _ _) | ((with_reducible refine Below.set ?_ ?_ _); rotate_left; (simp <;> omega)) | (with_reducible refine Below.box_ ?_ _) | (with_reducible refine Below.next ?_ (by assumption)))))) h1a h1b).mono ?_
      rintro e u1 ⟨rfl, hb1⟩
      obtain ⟨hc1, hf1⟩ := bcell hb1
      have hz1 : w.heap.size < u1.heap.size := by have := hb1.size; (try simp at this); omega
      go_wp2
      go_ret
      have L0' := L0.out; have E0' := E0.out
      have L1' := L1.out; have E1' := E1.out
      have hm := minus_pos (left := left) (n := (x.num.cnt) + (x.den.length)) (by omega)
      exact ⟨ret_int (by omega), by (repeat (first | (with_reducible exact Below.refl _ _) | ((with_reducible refine Below.set ?_ ?_ _); rotate_left; (simp <;> omega)) | (with_reducible refine Below.box_ ?_ _) | (with_reducible refine Below.next ?_ (by assumption))))⟩
set_option maxHeartbeats 400000 in
theorem laws_szGoal (v : Value) (x : TGoal) (bs : List Nat) (left : Int) (w : World) (hx : Agg w v x bs) (h0 : 0 ≤ left) (h1 : left ≤ 1048576) :
    Calls Tryd.prog 5 #[v, .int .i64 left] w (Gives w (.int .i64 (minus left x.cnt))) := by
  obtain ⟨A1, nA1, cA1, sA1, A2, nA2, cA2, sA2, A4, nA4, cA4, sA4, A5, nA5, cA5, sA5, rfl, rfl, w1, w2, w4, w5⟩ := TGoal.agg hx
  have W1 := hid w1
  have W2 := hid w2
  have W4 := hid w4
  have W5 := hid w5
  clear hx w1 w2 w4 w5
  unfold TGoal.cnt
  have h0a := h0; have h0b := h1
  rcases minus_cases left (x.value.cnt) with ⟨k0, e0, l0⟩ | ⟨k0, e0, l0⟩
  · have E0 := hid e0
    have L0 := hid l0
    clear e0 l0
    go_enter Tryd.func5, Tryd.ntmps5
    go_wp2_with fail
    refine (laws_szRat _ x.value _ left _ (TRat.mkAgg (Sl.below W1.out (by (repeat (first | (with_reducible exact Below.refl _ _) | ((with_reducible refine Below.set ?_ ?_ _); rotate_left; (simp <;> omega)) | (with_reducible refine Below.box_ ?_ _) | (with_reducible refine Below.next ?_ (by assumption)))))) (Sl.below W2.out (by (repeat (first | (with_reducible exact Below.refl _ _) | ((with_reducible refine Below.set ?_ ?_ _); rotate_left; (simp <;> omega)) | (with_reducible refine Below.box_ ?_ _) | (with_reducible refine Below.next ?_ (by assumption))))))) h0a h0b).mono ?_
    rintro e u0 ⟨rfl, hb0⟩
    obtain ⟨hc0, hf0⟩ := bcell hb0
    have hz0 : w.heap.size < u0.heap.size := by have := hb0.size; (try simp at this); omega
    go_wp2
    go_ret
    exact ⟨by have := L0.out; rw [minus_neg (show left < (((x.value.cnt) + (x.square.cnt) : Nat) : Int) by omega)]; rfl, by (repeat (first | (with_reducible exact Below.refl _ _) | ((with_reducible refine Below.set ?_ ?_ _); rotate_left; (simp <;> omega)) | (with_reducible refine Below.box_ ?_ _) | (with_reducible refine Below.next ?_ (by assumption))))⟩
  · have E0 := hid e0
    have L0 := hid l0
    have h1a : 0 ≤ minus left (x.value.cnt) := k0
    have h1b : minus left (x.value.cnt) ≤ 1048576 := by omega
    clear e0 l0
    rcases minus_cases (minus left (x.value.cnt)) (x.square.cnt) with ⟨k1, e1, l1⟩ | ⟨k1, e1, l1⟩
    · have E1 := hid e1
      have L1 := hid l1
      clear e1 l1
      go_enter Tryd.func5, Tryd.ntmps5
      go_wp2_with fail
      refine (laws_szRat _ x.value _ left _ (TRat.mkAgg (Sl.below W1.out (by (repeat (first | (with_reducible exact Below.refl _ _) | ((with_reducible refine Below.set ?_ ?_ _); rotate_left; (simp <;> omega)) | (with_reducible refine Below.box_ ?_ _) | (with_reducible refine Below.next ?_ (by assumption)))))) (Sl.below W2.out (by (repeat (first | (with_reducible exact Below.refl _ _) | ((with_reducible refine Below.set ?_ ?_ _); rotate_left; (simp <;> omega)) | (with_reducible refine Below.box_ ?_ _) | (with_reducible refine Below.next ?_ (by assumption))))))) h0a h0b).mono ?_
      rintro e u0 ⟨rfl, hb0⟩
      obtain ⟨hc0, hf0⟩ := bcell hb0
      have hz0 : w.heap.size < u0.heap.size := by have := hb0.size; (try simp at this); omega
      go_wp2_with fail
      refine (laws_szRat _ x.square _ (minus left (x.value.cnt)) _ (TRat.mkAgg (Sl.below W4.out (by (repeat (first | (with_reducible exact Below.refl _ _) | ((with_reducible refine Below.set ?_ ?_ _); rotate_left; (simp <;> omega)) | (with_reducible refine Below.box_ ?_ _) | (with_reducible refine Below.next ?_ (by assumption)))))) (Sl.below W5.out (by (repeat (first | (with_reducible exact Below.refl _ _) | ((with_reducible refine Below.set ?_ ?_ _); rotate_left; (simp <;> omega)) | (with_reducible refine Below.box_ ?_ _) | (with_reducible refine Below.next ?_ (by assumption))))))) h1a h1b).mono ?_
      rintro e u1 ⟨rfl, hb1⟩
      obtain ⟨hc1, hf1⟩ := bcell hb1
      have hz1 : w.heap.size < u1.heap.size := by have := hb1.size; (try simp at this); omega
      go_wp2
      go_ret
      exact ⟨by have := L1.out; have := E0.out; rw [minus_neg (show left < (((x.value.cnt) + (x.square.cnt) : Nat) : Int) by omega)]; rfl, by (repeat (first | (with_reducible exact Below.refl _ _) | ((with_reducible refine Below.set ?_ ?_ _); rotate_left; (simp <;> omega)) | (with_reducible refine Below.box_ ?_ _) | (with_reducible refine Below.next ?_ (by assumption))))⟩
    · have E1 := hid e1
      have L1 := hid l1
      have h2a : 0 ≤ minus (minus left (x.value.cnt)) (x.square.cnt) := k1
      have h2b : minus (minus left (x.value.cnt)) (x.square.cnt) ≤ 1048576 := by omega
      clear e1 l1
      go_enter Tryd.func5, Tryd.ntmps5
      go_wp2_with fail
      refine (laws_szRat _ x.value _ left _ (TRat.mkAgg (Sl.below W1.out (by (repeat (first | (with_reducible exact Below.refl _ _) | ((with_reducible refine Below.set ?_ ?_ _); rotate_left; (simp <;> omega)) | (with_reducible refine Below.box_ ?_ _) | (with_reducible refine Below.next ?_ (by assumption)))))) (Sl.below W2.out (by (repeat (first | (with_reducible exact Below.refl _ _) | ((with_reducible refine Below.set ?_ ?_ _); rotate_left; (simp <;> omega)) | (with_reducible refine Below.box_ ?_ _) | (with_reducible refine Below.next ?_ (by assumption))))))) h0a h0b).mono ?_
      rintro e u0 ⟨rfl, hb0⟩
      obtain ⟨hc0, hf0⟩ := bcell hb0
      have hz0 : w.heap.size < u0.heap.size := by have := hb0.size; (try simp at this); omega
      go_wp2_with fail
      refine (laws_szRat _ x.square _ (minus left (x.value.cnt)) _ (TRat.mkAgg (Sl.below W4.out (by (repeat (first | (with_reducible exact Below.refl _ _) | ((with_reducible refine Below.set ?_ ?_ _); rotate_left; (simp <;> omega)) | (with_reducible refine Below.box_ ?_ _) | (with_reducible refine Below.next ?_ (by assumption)))))) (Sl.below W5.out (by (repeat (first | (with_reducible exact Below.refl _ _) | ((with_reducible refine Below.set ?_ ?_ _); rotate_left; (simp <;> omega)) | (with_reducible refine Below.box_ ?_ _) | (with_reducible refine Below.next ?_ (by assumption))))))) h1a h1b).mono ?_
      rintro e u1 ⟨rfl, hb1⟩
      obtain ⟨hc1, hf1⟩ := bcell hb1
      have hz1 : w.heap.size < u1.heap.size := by have := hb1.size; (try simp at this); omega
      go_wp2
      go_ret
      have L0' := L0.out; have E0' := E0.out
      have L1' := L1.out; have E1' := E1.out
      have hm := minus_pos (left := left) (n := (x.value.cnt) + (x.square.cnt)) (by omega)
      exact ⟨ret_int (by omega), by (repeat (first | (with_reducible exact Below.refl _ _) | ((with_reducible refine Below.set ?_ ?_ _); rotate_left; (simp <;> omega)) | (with_reducible refine Below.box_ ?_ _) | (with_reducible refine Below.next ?_ (by assumption))))⟩
set_option maxHeartbeats 400000 in
theorem laws_szReport (v : Value) (x : TReport) (bs : List Nat) (left : Int) (w : World) (hx : Agg w v x bs) (h0 : 0 ≤ left) (h1 : left ≤ 1048576) :
    Calls Tryd.prog 10 #[v, .int .i64 left] w (Gives w (.int .i64 (minus left x.cnt))) := by
  obtain ⟨A2, nA2, cA2, sA2, A3, nA3, cA3, sA3, A5, nA5, cA5, sA5, A6, nA6, cA6, sA6, rfl, rfl, w0, w2, w3, w5, w6⟩ := TReport.agg hx
  have W0 := hid w0
  have W2 := hid w2
  have W3 := hid w3
  have W5 := hid w5
  have W6 := hid w6
  clear hx w0 w2 w3 w5 w6
  unfold TReport.cnt
  have h0a := h0; have h0b := h1
  rcases minus_cases left (x.energy.cnt) with ⟨k0, e0, l0⟩ | ⟨k0, e0, l0⟩
  · have E0 := hid e0
    have L0 := hid l0
    clear e0 l0
    go_enter Tryd.func10, Tryd.ntmps10
    go_wp2_with fail
    refine (laws_szRat _ x.energy _ left _ (TRat.mkAgg (Sl.below W2.out (by (repeat (first | (with_reducible exact Below.refl _ _) | ((with_reducible refine Below.set ?_ ?_ _); rotate_left; (simp <;> omega)) | (with_reducible refine Below.box_ ?_ _) | (with_reducible refine Below.next ?_ (by assumption)))))) (Sl.below W3.out (by (repeat (first | (with_reducible exact Below.refl _ _) | ((with_reducible refine Below.set ?_ ?_ _); rotate_left; (simp <;> omega)) | (with_reducible refine Below.box_ ?_ _) | (with_reducible refine Below.next ?_ (by assumption))))))) h0a h0b).mono ?_
    rintro e u0 ⟨rfl, hb0⟩
    obtain ⟨hc0, hf0⟩ := bcell hb0
    have hz0 : w.heap.size < u0.heap.size := by have := hb0.size; (try simp at this); omega
    go_wp2
    go_ret
    exact ⟨by have := L0.out; rw [minus_neg (show left < (((x.energy.cnt) + (x.bound.cnt) : Nat) : Int) by omega)]; rfl, by (repeat (first | (with_reducible exact Below.refl _ _) | ((with_reducible refine Below.set ?_ ?_ _); rotate_left; (simp <;> omega)) | (with_reducible refine Below.box_ ?_ _) | (with_reducible refine Below.next ?_ (by assumption))))⟩
  · have E0 := hid e0
    have L0 := hid l0
    have h1a : 0 ≤ minus left (x.energy.cnt) := k0
    have h1b : minus left (x.energy.cnt) ≤ 1048576 := by omega
    clear e0 l0
    rcases minus_cases (minus left (x.energy.cnt)) (x.bound.cnt) with ⟨k1, e1, l1⟩ | ⟨k1, e1, l1⟩
    · have E1 := hid e1
      have L1 := hid l1
      clear e1 l1
      go_enter Tryd.func10, Tryd.ntmps10
      go_wp2_with fail
      refine (laws_szRat _ x.energy _ left _ (TRat.mkAgg (Sl.below W2.out (by (repeat (first | (with_reducible exact Below.refl _ _) | ((with_reducible refine Below.set ?_ ?_ _); rotate_left; (simp <;> omega)) | (with_reducible refine Below.box_ ?_ _) | (with_reducible refine Below.next ?_ (by assumption)))))) (Sl.below W3.out (by (repeat (first | (with_reducible exact Below.refl _ _) | ((with_reducible refine Below.set ?_ ?_ _); rotate_left; (simp <;> omega)) | (with_reducible refine Below.box_ ?_ _) | (with_reducible refine Below.next ?_ (by assumption))))))) h0a h0b).mono ?_
      rintro e u0 ⟨rfl, hb0⟩
      obtain ⟨hc0, hf0⟩ := bcell hb0
      have hz0 : w.heap.size < u0.heap.size := by have := hb0.size; (try simp at this); omega
      go_wp2_with fail
      refine (laws_szRat _ x.bound _ (minus left (x.energy.cnt)) _ (TRat.mkAgg (Sl.below W5.out (by (repeat (first | (with_reducible exact Below.refl _ _) | ((with_reducible refine Below.set ?_ ?_ _); rotate_left; (simp <;> omega)) | (with_reducible refine Below.box_ ?_ _) | (with_reducible refine Below.next ?_ (by assumption)))))) (Sl.below W6.out (by (repeat (first | (with_reducible exact Below.refl _ _) | ((with_reducible refine Below.set ?_ ?_ _); rotate_left; (simp <;> omega)) | (with_reducible refine Below.box_ ?_ _) | (with_reducible refine Below.next ?_ (by assumption))))))) h1a h1b).mono ?_
      rintro e u1 ⟨rfl, hb1⟩
      obtain ⟨hc1, hf1⟩ := bcell hb1
      have hz1 : w.heap.size < u1.heap.size := by have := hb1.size; (try simp at this); omega
      go_wp2
      go_ret
      exact ⟨by have := L1.out; have := E0.out; rw [minus_neg (show left < (((x.energy.cnt) + (x.bound.cnt) : Nat) : Int) by omega)]; rfl, by (repeat (first | (with_reducible exact Below.refl _ _) | ((with_reducible refine Below.set ?_ ?_ _); rotate_left; (simp <;> omega)) | (with_reducible refine Below.box_ ?_ _) | (with_reducible refine Below.next ?_ (by assumption))))⟩
    · have E1 := hid e1
      have L1 := hid l1
      have h2a : 0 ≤ minus (minus left (x.energy.cnt)) (x.bound.cnt) := k1
      have h2b : minus (minus left (x.energy.cnt)) (x.bound.cnt) ≤ 1048576 := by omega
      clear e1 l1
      go_enter Tryd.func10, Tryd.ntmps10
      go_wp2_with fail
      refine (laws_szRat _ x.energy _ left _ (TRat.mkAgg (Sl.below W2.out (by (repeat (first | (with_reducible exact Below.refl _ _) | ((with_reducible refine Below.set ?_ ?_ _); rotate_left; (simp <;> omega)) | (with_reducible refine Below.box_ ?_ _) | (with_reducible refine Below.next ?_ (by assumption)))))) (Sl.below W3.out (by (repeat (first | (with_reducible exact Below.refl _ _) | ((with_reducible refine Below.set ?_ ?_ _); rotate_left; (simp <;> omega)) | (with_reducible refine Below.box_ ?_ _) | (with_reducible refine Below.next ?_ (by assumption))))))) h0a h0b).mono ?_
      rintro e u0 ⟨rfl, hb0⟩
      obtain ⟨hc0, hf0⟩ := bcell hb0
      have hz0 : w.heap.size < u0.heap.size := by have := hb0.size; (try simp at this); omega
      go_wp2_with fail
      refine (laws_szRat _ x.bound _ (minus left (x.energy.cnt)) _ (TRat.mkAgg (Sl.below W5.out (by (repeat (first | (with_reducible exact Below.refl _ _) | ((with_reducible refine Below.set ?_ ?_ _); rotate_left; (simp <;> omega)) | (with_reducible refine Below.box_ ?_ _) | (with_reducible refine Below.next ?_ (by assumption)))))) (Sl.below W6.out (by (repeat (first | (with_reducible exact Below.refl _ _) | ((with_reducible refine Below.set ?_ ?_ _); rotate_left; (simp <;> omega)) | (with_reducible refine Below.box_ ?_ _) | (with_reducible refine Below.next ?_ (by assumption))))))) h1a h1b).mono ?_
      rintro e u1 ⟨rfl, hb1⟩
      obtain ⟨hc1, hf1⟩ := bcell hb1
      have hz1 : w.heap.size < u1.heap.size := by have := hb1.size; (try simp at this); omega
      go_wp2
      go_ret
      have L0' := L0.out; have E0' := E0.out
      have L1' := L1.out; have E1' := E1.out
      have hm := minus_pos (left := left) (n := (x.energy.cnt) + (x.bound.cnt)) (by omega)
      exact ⟨ret_int (by omega), by (repeat (first | (with_reducible exact Below.refl _ _) | ((with_reducible refine Below.set ?_ ?_ _); rotate_left; (simp <;> omega)) | (with_reducible refine Below.box_ ?_ _) | (with_reducible refine Below.next ?_ (by assumption))))⟩
end Go.Proofs.YthlpjpcnpcclhaaDoor.X

/- The laws' copies of their arguments: laws.to... Written by gen_law.py. -/
namespace Go.Proofs.YthlpjpcnpcclhaaDoor.X
open Go.RowKit Go.XB
attribute [local go_sem] fillBy opAt deps depOf Region.wanted yielded
attribute [local simp] deps depOf MP.eq Facts
set_option maxHeartbeats 1000000 in
theorem laws_toBigInt (v : Value) (x : TBigInt) (bs : List Nat) (w : World) (hx : Agg w v x bs) (hsz : x.cnt ≤ 1048576) : Calls Tryd.prog 32 #[v] w (GivesAgg w x) := by
  obtain ⟨A1, nA1, cA1, sA1, rfl, rfl, w1⟩ := TBigInt.agg hx
  have W1 := hid w1
  clear hx w1
  unfold TBigInt.cnt at hsz
  go_enter Tryd.func32, Tryd.ntmps32
  go_wp2_with fail
  refine (laws_toIntS _ _ _ x.mag _ _ (Sl.below W1.out (by (repeat (first | (with_reducible exact Below.refl _ _) | ((with_reducible refine Below.set ?_ ?_ _); rotate_left; (simp <;> omega)) | (with_reducible refine Below.box_ ?_ _) | (with_reducible refine Below.next ?_ (by assumption)))))) (by have := W1.out.1; omega)).mono ?_
  rintro e u0 ⟨B0, m0, d0, t0, rfl, hs0, ho0, hb0⟩
  have HS0 := hid (show Dat.at_ u0 [.slice B0 m0 d0] x.mag t0 from ⟨_, _, _, rfl, hs0⟩)
  have HO0 := hid ho0
  clear hs0 ho0
  obtain ⟨hc0, hf0⟩ := bcell hb0
  have hz0 : w.heap.size < u0.heap.size ∧ w.heap.size + 1 < u0.heap.size ∧ w.heap.size + 1 + 1 < u0.heap.size := by have := hb0.size; (try simp at this); omega
  obtain ⟨hz0a, hz0b, hz0c⟩ := hz0
  go_wp2
  refine bodyPost_ret (v := .agg #[.bool x.neg, .slice B0 m0 d0]) (by simp [results, Tryd.results32, go_sem, *]) rfl ?_
  have a0 : ∀ W : World, Above (w.heap.size + 3) u0 W → Dat.at_ W [.slice B0 m0 d0] x.mag _ ∧ Own w W _ := fun W ha =>
    ⟨At.above HS0.out HO0.out ha (by simp <;> omega), (HO0.out.above ha (by simp <;> omega)).older (by simp <;> omega)⟩
  refine ⟨_, _, rfl, ⟨_, rfl, ⟨_, _, _, _, rfl, rfl, ⟨rfl, rfl⟩, (a0 _ (by (repeat (first | (with_reducible exact Above.refl _ _) | ((with_reducible refine Above.set ?_ ?_ _); rotate_left; (simp <;> omega)) | (with_reducible refine Above.box ?_ _) | (with_reducible refine Above.below ?_ (by assumption)))))).1⟩⟩, ?_, ?_⟩
  · have hsz' : True := trivial
    have q0 := hb0.size; (try simp at q0)
    refine Own.append (Own.nil _ _) ?_ ?_
    rotate_left
    · intro b hb; simp at hb
    exact (a0 _ (by (repeat (first | (with_reducible exact Above.refl _ _) | ((with_reducible refine Above.set ?_ ?_ _); rotate_left; (simp <;> omega)) | (with_reducible refine Above.box ?_ _) | (with_reducible refine Above.below ?_ (by assumption)))))).2
  · (repeat (first | (with_reducible exact Below.refl _ _) | ((with_reducible refine Below.set ?_ ?_ _); rotate_left; (simp <;> omega)) | (with_reducible refine Below.box_ ?_ _) | (with_reducible refine Below.next ?_ (by assumption))))
set_option maxHeartbeats 1000000 in
theorem laws_toRat (v : Value) (x : TRat) (bs : List Nat) (w : World) (hx : Agg w v x bs) (hsz : x.cnt ≤ 1048576) : Calls Tryd.prog 18 #[v] w (GivesAgg w x) := by
  obtain ⟨A1, nA1, cA1, sA1, A2, nA2, cA2, sA2, rfl, rfl, w1, w2⟩ := TRat.agg hx
  have W1 := hid w1
  have W2 := hid w2
  clear hx w1 w2
  unfold TRat.cnt at hsz
  go_enter Tryd.func18, Tryd.ntmps18
  go_wp2_with fail
  refine (laws_toBigInt _ x.num _ _ (TBigInt.mkAgg (Sl.below W1.out (by (repeat (first | (with_reducible exact Below.refl _ _) | ((with_reducible refine Below.set ?_ ?_ _); rotate_left; (simp <;> omega)) | (with_reducible refine Below.box_ ?_ _) | (with_reducible refine Below.next ?_ (by assumption))))))) (by omega)).mono ?_
  rintro e u0 ⟨r0, t0, rfl, hs0, ho0, hb0⟩
  obtain ⟨B01, nB01, cB01, sB01, rfl, rfl, y1⟩ := TBigInt.agg hs0
  have HS0 := hid (TBigInt.shut y1)
  have HO0 := hid ho0
  clear hs0 ho0 y1
  obtain ⟨hc0, hf0⟩ := bcell hb0
  have hz0 : w.heap.size < u0.heap.size ∧ w.heap.size + 1 < u0.heap.size ∧ w.heap.size + 1 + 1 < u0.heap.size := by have := hb0.size; (try simp at this); omega
  obtain ⟨hz0a, hz0b, hz0c⟩ := hz0
  go_wp2_with fail
  refine (laws_toIntS _ _ _ x.den _ _ (Sl.below W2.out (by (repeat (first | (with_reducible exact Below.refl _ _) | ((with_reducible refine Below.set ?_ ?_ _); rotate_left; (simp <;> omega)) | (with_reducible refine Below.box_ ?_ _) | (with_reducible refine Below.next ?_ (by assumption)))))) (by have := W2.out.1; omega)).mono ?_
  rintro e u1 ⟨B1, m1, d1, t1, rfl, hs1, ho1, hb1⟩
  have HS1 := hid (show Dat.at_ u1 [.slice B1 m1 d1] x.den t1 from ⟨_, _, _, rfl, hs1⟩)
  have HO1 := hid ho1
  clear hs1 ho1
  obtain ⟨hc1, hf1⟩ := bcell hb1
  have hz1 : w.heap.size < u1.heap.size ∧ w.heap.size + 1 < u1.heap.size ∧ w.heap.size + 1 + 1 < u1.heap.size := by have := hb1.size; (try simp at this); omega
  obtain ⟨hz1a, hz1b, hz1c⟩ := hz1
  go_wp2
  refine bodyPost_ret (v := .agg #[.bool x.num.neg, .slice B01 nB01 cB01, .slice B1 m1 d1]) (by simp [results, Tryd.results18, go_sem, *]) rfl ?_
  have a0 : ∀ W : World, Above (w.heap.size + 3) u0 W → Dat.at_ W [.bool x.num.neg, .slice B01 nB01 cB01] x.num _ ∧ Own w W _ := fun W ha =>
    ⟨At.above HS0.out HO0.out ha (by simp <;> omega), (HO0.out.above ha (by simp <;> omega)).older (by simp <;> omega)⟩
  have a1 : ∀ W : World, Above (w.heap.size + 3) u1 W → Dat.at_ W [.slice B1 m1 d1] x.den _ ∧ Own w W _ := fun W ha =>
    ⟨At.above HS1.out HO1.out ha (by simp <;> omega), (HO1.out.above ha (by simp <;> omega)).older (by simp <;> omega)⟩
  refine ⟨_, _, rfl, ⟨_, rfl, ⟨_, _, _, _, rfl, rfl, (a0 _ (by (repeat (first | (with_reducible exact Above.refl _ _) | ((with_reducible refine Above.set ?_ ?_ _); rotate_left; (simp <;> omega)) | (with_reducible refine Above.box ?_ _) | (with_reducible refine Above.below ?_ (by assumption)))))).1, (a1 _ (by (repeat (first | (with_reducible exact Above.refl _ _) | ((with_reducible refine Above.set ?_ ?_ _); rotate_left; (simp <;> omega)) | (with_reducible refine Above.box ?_ _) | (with_reducible refine Above.below ?_ (by assumption)))))).1⟩⟩, ?_, ?_⟩
  · have hsz' : True := trivial
    have q0 := hb0.size; (try simp at q0)
    have q1 := hb1.size; (try simp at q1)
    refine Own.append (a0 _ (by (repeat (first | (with_reducible exact Above.refl _ _) | ((with_reducible refine Above.set ?_ ?_ _); rotate_left; (simp <;> omega)) | (with_reducible refine Above.box ?_ _) | (with_reducible refine Above.below ?_ (by assumption)))))).2 ?_ ?_
    rotate_left
    · refine apart_of_lt (N := u0.heap.size) HO0.out.lt ?_
      intro b hb
      have h1 := (HO1.out.2 b hb).1; (try simp at h1); omega
    exact (a1 _ (by (repeat (first | (with_reducible exact Above.refl _ _) | ((with_reducible refine Above.set ?_ ?_ _); rotate_left; (simp <;> omega)) | (with_reducible refine Above.box ?_ _) | (with_reducible refine Above.below ?_ (by assumption)))))).2
  · (repeat (first | (with_reducible exact Below.refl _ _) | ((with_reducible refine Below.set ?_ ?_ _); rotate_left; (simp <;> omega)) | (with_reducible refine Below.box_ ?_ _) | (with_reducible refine Below.next ?_ (by assumption))))
set_option maxHeartbeats 1000000 in
theorem laws_toGoal (v : Value) (x : TGoal) (bs : List Nat) (w : World) (hx : Agg w v x bs) (hsz : x.cnt ≤ 1048576) : Calls Tryd.prog 7 #[v] w (GivesAgg w x) := by
  obtain ⟨A1, nA1, cA1, sA1, A2, nA2, cA2, sA2, A4, nA4, cA4, sA4, A5, nA5, cA5, sA5, rfl, rfl, w1, w2, w4, w5⟩ := TGoal.agg hx
  have W1 := hid w1
  have W2 := hid w2
  have W4 := hid w4
  have W5 := hid w5
  clear hx w1 w2 w4 w5
  unfold TGoal.cnt at hsz
  go_enter Tryd.func7, Tryd.ntmps7
  go_wp2_with fail
  refine (laws_toRat _ x.value _ _ (TRat.mkAgg (Sl.below W1.out (by (repeat (first | (with_reducible exact Below.refl _ _) | ((with_reducible refine Below.set ?_ ?_ _); rotate_left; (simp <;> omega)) | (with_reducible refine Below.box_ ?_ _) | (with_reducible refine Below.next ?_ (by assumption)))))) (Sl.below W2.out (by (repeat (first | (with_reducible exact Below.refl _ _) | ((with_reducible refine Below.set ?_ ?_ _); rotate_left; (simp <;> omega)) | (with_reducible refine Below.box_ ?_ _) | (with_reducible refine Below.next ?_ (by assumption))))))) (by omega)).mono ?_
  rintro e u0 ⟨r0, t0, rfl, hs0, ho0, hb0⟩
  obtain ⟨B01, nB01, cB01, sB01, B02, nB02, cB02, sB02, rfl, rfl, y1, y2⟩ := TRat.agg hs0
  have HS0 := hid (TRat.shut y1 y2)
  have HO0 := hid ho0
  clear hs0 ho0 y1 y2
  obtain ⟨hc0, hf0⟩ := bcell hb0
  have hz0 : w.heap.size < u0.heap.size ∧ w.heap.size + 1 < u0.heap.size ∧ w.heap.size + 1 + 1 < u0.heap.size := by have := hb0.size; (try simp at this); omega
  obtain ⟨hz0a, hz0b, hz0c⟩ := hz0
  go_wp2_with fail
  refine (laws_toRat _ x.square _ _ (TRat.mkAgg (Sl.below W4.out (by (repeat (first | (with_reducible exact Below.refl _ _) | ((with_reducible refine Below.set ?_ ?_ _); rotate_left; (simp <;> omega)) | (with_reducible refine Below.box_ ?_ _) | (with_reducible refine Below.next ?_ (by assumption)))))) (Sl.below W5.out (by (repeat (first | (with_reducible exact Below.refl _ _) | ((with_reducible refine Below.set ?_ ?_ _); rotate_left; (simp <;> omega)) | (with_reducible refine Below.box_ ?_ _) | (with_reducible refine Below.next ?_ (by assumption))))))) (by omega)).mono ?_
  rintro e u1 ⟨r1, t1, rfl, hs1, ho1, hb1⟩
  obtain ⟨B11, nB11, cB11, sB11, B12, nB12, cB12, sB12, rfl, rfl, y1, y2⟩ := TRat.agg hs1
  have HS1 := hid (TRat.shut y1 y2)
  have HO1 := hid ho1
  clear hs1 ho1 y1 y2
  obtain ⟨hc1, hf1⟩ := bcell hb1
  have hz1 : w.heap.size < u1.heap.size ∧ w.heap.size + 1 < u1.heap.size ∧ w.heap.size + 1 + 1 < u1.heap.size := by have := hb1.size; (try simp at this); omega
  obtain ⟨hz1a, hz1b, hz1c⟩ := hz1
  go_wp2
  refine bodyPost_ret (v := .agg #[.bool x.value.num.neg, .slice B01 nB01 cB01, .slice B02 nB02 cB02, .bool x.square.num.neg, .slice B11 nB11 cB11, .slice B12 nB12 cB12]) (by simp [results, Tryd.results7, go_sem, *]) rfl ?_
  have a0 : ∀ W : World, Above (w.heap.size + 3) u0 W → Dat.at_ W [.bool x.value.num.neg, .slice B01 nB01 cB01, .slice B02 nB02 cB02] x.value _ ∧ Own w W _ := fun W ha =>
    ⟨At.above HS0.out HO0.out ha (by simp <;> omega), (HO0.out.above ha (by simp <;> omega)).older (by simp <;> omega)⟩
  have a1 : ∀ W : World, Above (w.heap.size + 3) u1 W → Dat.at_ W [.bool x.square.num.neg, .slice B11 nB11 cB11, .slice B12 nB12 cB12] x.square _ ∧ Own w W _ := fun W ha =>
    ⟨At.above HS1.out HO1.out ha (by simp <;> omega), (HO1.out.above ha (by simp <;> omega)).older (by simp <;> omega)⟩
  refine ⟨_, _, rfl, ⟨_, rfl, ⟨_, _, _, _, rfl, rfl, (a0 _ (by (repeat (first | (with_reducible exact Above.refl _ _) | ((with_reducible refine Above.set ?_ ?_ _); rotate_left; (simp <;> omega)) | (with_reducible refine Above.box ?_ _) | (with_reducible refine Above.below ?_ (by assumption)))))).1, (a1 _ (by (repeat (first | (with_reducible exact Above.refl _ _) | ((with_reducible refine Above.set ?_ ?_ _); rotate_left; (simp <;> omega)) | (with_reducible refine Above.box ?_ _) | (with_reducible refine Above.below ?_ (by assumption)))))).1⟩⟩, ?_, ?_⟩
  · have hsz' : True := trivial
    have q0 := hb0.size; (try simp at q0)
    have q1 := hb1.size; (try simp at q1)
    refine Own.append (a0 _ (by (repeat (first | (with_reducible exact Above.refl _ _) | ((with_reducible refine Above.set ?_ ?_ _); rotate_left; (simp <;> omega)) | (with_reducible refine Above.box ?_ _) | (with_reducible refine Above.below ?_ (by assumption)))))).2 ?_ ?_
    rotate_left
    · refine apart_of_lt (N := u0.heap.size) HO0.out.lt ?_
      intro b hb
      have h1 := (HO1.out.2 b hb).1; (try simp at h1); omega
    exact (a1 _ (by (repeat (first | (with_reducible exact Above.refl _ _) | ((with_reducible refine Above.set ?_ ?_ _); rotate_left; (simp <;> omega)) | (with_reducible refine Above.box ?_ _) | (with_reducible refine Above.below ?_ (by assumption)))))).2
  · (repeat (first | (with_reducible exact Below.refl _ _) | ((with_reducible refine Below.set ?_ ?_ _); rotate_left; (simp <;> omega)) | (with_reducible refine Below.box_ ?_ _) | (with_reducible refine Below.next ?_ (by assumption))))
set_option maxHeartbeats 1000000 in
theorem laws_toReport (v : Value) (x : TReport) (bs : List Nat) (w : World) (hx : Agg w v x bs) (hsz : x.cnt ≤ 1048576) : Calls Tryd.prog 12 #[v] w (GivesAgg w x) := by
  obtain ⟨A2, nA2, cA2, sA2, A3, nA3, cA3, sA3, A5, nA5, cA5, sA5, A6, nA6, cA6, sA6, rfl, rfl, w0, w2, w3, w5, w6⟩ := TReport.agg hx
  have W0 := hid w0
  have W2 := hid w2
  have W3 := hid w3
  have W5 := hid w5
  have W6 := hid w6
  clear hx w0 w2 w3 w5 w6
  unfold TReport.cnt at hsz
  go_enter Tryd.func12, Tryd.ntmps12
  go_wp2_with fail
  refine (laws_toRat _ x.energy _ _ (TRat.mkAgg (Sl.below W2.out (by (repeat (first | (with_reducible exact Below.refl _ _) | ((with_reducible refine Below.set ?_ ?_ _); rotate_left; (simp <;> omega)) | (with_reducible refine Below.box_ ?_ _) | (with_reducible refine Below.next ?_ (by assumption)))))) (Sl.below W3.out (by (repeat (first | (with_reducible exact Below.refl _ _) | ((with_reducible refine Below.set ?_ ?_ _); rotate_left; (simp <;> omega)) | (with_reducible refine Below.box_ ?_ _) | (with_reducible refine Below.next ?_ (by assumption))))))) (by omega)).mono ?_
  rintro e u0 ⟨r0, t0, rfl, hs0, ho0, hb0⟩
  obtain ⟨B01, nB01, cB01, sB01, B02, nB02, cB02, sB02, rfl, rfl, y1, y2⟩ := TRat.agg hs0
  have HS0 := hid (TRat.shut y1 y2)
  have HO0 := hid ho0
  clear hs0 ho0 y1 y2
  obtain ⟨hc0, hf0⟩ := bcell hb0
  have hz0 : w.heap.size < u0.heap.size ∧ w.heap.size + 1 < u0.heap.size ∧ w.heap.size + 1 + 1 < u0.heap.size := by have := hb0.size; (try simp at this); omega
  obtain ⟨hz0a, hz0b, hz0c⟩ := hz0
  go_wp2_with fail
  refine (laws_toRat _ x.bound _ _ (TRat.mkAgg (Sl.below W5.out (by (repeat (first | (with_reducible exact Below.refl _ _) | ((with_reducible refine Below.set ?_ ?_ _); rotate_left; (simp <;> omega)) | (with_reducible refine Below.box_ ?_ _) | (with_reducible refine Below.next ?_ (by assumption)))))) (Sl.below W6.out (by (repeat (first | (with_reducible exact Below.refl _ _) | ((with_reducible refine Below.set ?_ ?_ _); rotate_left; (simp <;> omega)) | (with_reducible refine Below.box_ ?_ _) | (with_reducible refine Below.next ?_ (by assumption))))))) (by omega)).mono ?_
  rintro e u1 ⟨r1, t1, rfl, hs1, ho1, hb1⟩
  obtain ⟨B11, nB11, cB11, sB11, B12, nB12, cB12, sB12, rfl, rfl, y1, y2⟩ := TRat.agg hs1
  have HS1 := hid (TRat.shut y1 y2)
  have HO1 := hid ho1
  clear hs1 ho1 y1 y2
  obtain ⟨hc1, hf1⟩ := bcell hb1
  have hz1 : w.heap.size < u1.heap.size ∧ w.heap.size + 1 < u1.heap.size ∧ w.heap.size + 1 + 1 < u1.heap.size := by have := hb1.size; (try simp at this); omega
  obtain ⟨hz1a, hz1b, hz1c⟩ := hz1
  go_wp2
  refine bodyPost_ret (v := .agg #[.int .i64 x.triangles, .bool x.energy.num.neg, .slice B01 nB01 cB01, .slice B02 nB02 cB02, .bool x.bound.num.neg, .slice B11 nB11 cB11, .slice B12 nB12 cB12]) (by simp [results, Tryd.results12, go_sem, *]) rfl ?_
  have a0 : ∀ W : World, Above (w.heap.size + 3) u0 W → Dat.at_ W [.bool x.energy.num.neg, .slice B01 nB01 cB01, .slice B02 nB02 cB02] x.energy _ ∧ Own w W _ := fun W ha =>
    ⟨At.above HS0.out HO0.out ha (by simp <;> omega), (HO0.out.above ha (by simp <;> omega)).older (by simp <;> omega)⟩
  have a1 : ∀ W : World, Above (w.heap.size + 3) u1 W → Dat.at_ W [.bool x.bound.num.neg, .slice B11 nB11 cB11, .slice B12 nB12 cB12] x.bound _ ∧ Own w W _ := fun W ha =>
    ⟨At.above HS1.out HO1.out ha (by simp <;> omega), (HO1.out.above ha (by simp <;> omega)).older (by simp <;> omega)⟩
  refine ⟨_, _, rfl, ⟨_, rfl, ⟨_, _, _, _, rfl, rfl, ⟨rfl, rfl, W0.out⟩, ⟨_, _, _, _, rfl, rfl, (a0 _ (by (repeat (first | (with_reducible exact Above.refl _ _) | ((with_reducible refine Above.set ?_ ?_ _); rotate_left; (simp <;> omega)) | (with_reducible refine Above.box ?_ _) | (with_reducible refine Above.below ?_ (by assumption)))))).1, (a1 _ (by (repeat (first | (with_reducible exact Above.refl _ _) | ((with_reducible refine Above.set ?_ ?_ _); rotate_left; (simp <;> omega)) | (with_reducible refine Above.box ?_ _) | (with_reducible refine Above.below ?_ (by assumption)))))).1⟩⟩⟩, ?_, ?_⟩
  · have hsz' : True := trivial
    have q0 := hb0.size; (try simp at q0)
    have q1 := hb1.size; (try simp at q1)
    refine Own.append (Own.nil _ _) ?_ ?_
    rotate_left
    · intro b hb; simp at hb
    refine Own.append (a0 _ (by (repeat (first | (with_reducible exact Above.refl _ _) | ((with_reducible refine Above.set ?_ ?_ _); rotate_left; (simp <;> omega)) | (with_reducible refine Above.box ?_ _) | (with_reducible refine Above.below ?_ (by assumption)))))).2 ?_ ?_
    rotate_left
    · refine apart_of_lt (N := u0.heap.size) HO0.out.lt ?_
      intro b hb
      have h1 := (HO1.out.2 b hb).1; (try simp at h1); omega
    exact (a1 _ (by (repeat (first | (with_reducible exact Above.refl _ _) | ((with_reducible refine Above.set ?_ ?_ _); rotate_left; (simp <;> omega)) | (with_reducible refine Above.box ?_ _) | (with_reducible refine Above.below ?_ (by assumption)))))).2
  · (repeat (first | (with_reducible exact Below.refl _ _) | ((with_reducible refine Below.set ?_ ?_ _); rotate_left; (simp <;> omega)) | (with_reducible refine Below.box_ ?_ _) | (with_reducible refine Below.next ?_ (by assumption))))
end Go.Proofs.YthlpjpcnpcclhaaDoor.X

/- The laws' comparisons: laws.eq... Written by gen_law.py. -/
namespace Go.Proofs.YthlpjpcnpcclhaaDoor.X
open Go.RowKit Go.XB
attribute [local go_sem] fillBy opAt deps depOf Region.wanted yielded
attribute [local simp] deps depOf MP.eq Facts
set_option maxHeartbeats 1000000 in
theorem laws_eqBigInt (v v' : Value) (x y : TBigInt) (bs bs' : List Nat) (w : World) (hx : Agg w v x bs) (hy : Agg w v' y bs') : Calls Tryd.prog 40 #[v, v'] w (Gives w (.bool (decide (x = y)))) := by
  obtain ⟨A1, nA1, cA1, sA1, rfl, rfl, w1⟩ := TBigInt.agg hx
  obtain ⟨B1, nB1, cB1, sB1, rfl, rfl, v1⟩ := TBigInt.agg hy
  have W1 := hid w1; have V1 := hid v1
  clear hx hy w1 v1
  by_cases q0 : x.neg = y.neg
  rotate_left
  · have g0 : (!x.neg == y.neg) = true := by simp [q0]
    have Q := hid q0; clear q0
    go_enter Tryd.func40, Tryd.ntmps40
    go_wp2
    go_ret
    exact ⟨ret_bool (by have : x ≠ y := fun e => Q.out (by rw [e]); simp [this]), by (repeat (first | (with_reducible exact Below.refl _ _) | ((with_reducible refine Below.set ?_ ?_ _); rotate_left; (simp <;> omega)) | (with_reducible refine Below.box_ ?_ _) | (with_reducible refine Below.next ?_ (by assumption))))⟩
  have g0 : (!x.neg == y.neg) = false := by simp [q0]
  have Q0 := hid q0; clear q0
  by_cases q1 : x.mag = y.mag
  rotate_left
  · have g1 : decide (x.mag = y.mag) = false := by simp [q1]
    have Q := hid q1; clear q1
    go_enter Tryd.func40, Tryd.ntmps40
    go_wp2_with fail
    refine (laws_eqIntS _ _ _ _ _ _ x.mag y.mag _ _ _ (Sl.below W1.out (by (repeat (first | (with_reducible exact Below.refl _ _) | ((with_reducible refine Below.set ?_ ?_ _); rotate_left; (simp <;> omega)) | (with_reducible refine Below.box_ ?_ _) | (with_reducible refine Below.next ?_ (by assumption)))))) (Sl.below V1.out (by (repeat (first | (with_reducible exact Below.refl _ _) | ((with_reducible refine Below.set ?_ ?_ _); rotate_left; (simp <;> omega)) | (with_reducible refine Below.box_ ?_ _) | (with_reducible refine Below.next ?_ (by assumption))))))).mono ?_
    rintro e u1 ⟨rfl, hb1⟩
    obtain ⟨hc1, hf1⟩ := bcell hb1
    have hz1 : w.heap.size < u1.heap.size ∧ w.heap.size + 1 < u1.heap.size := by have := hb1.size; (try simp at this); omega
    obtain ⟨hz1a, hz1b⟩ := hz1
    go_wp2
    go_ret
    exact ⟨ret_bool (by have : x ≠ y := fun e => Q.out (by rw [e]); simp [this]), by (repeat (first | (with_reducible exact Below.refl _ _) | ((with_reducible refine Below.set ?_ ?_ _); rotate_left; (simp <;> omega)) | (with_reducible refine Below.box_ ?_ _) | (with_reducible refine Below.next ?_ (by assumption))))⟩
  have g1 : decide (x.mag = y.mag) = true := by simp [q1]
  have Q1 := hid q1; clear q1
  go_enter Tryd.func40, Tryd.ntmps40
  go_wp2_with fail
  refine (laws_eqIntS _ _ _ _ _ _ x.mag y.mag _ _ _ (Sl.below W1.out (by (repeat (first | (with_reducible exact Below.refl _ _) | ((with_reducible refine Below.set ?_ ?_ _); rotate_left; (simp <;> omega)) | (with_reducible refine Below.box_ ?_ _) | (with_reducible refine Below.next ?_ (by assumption)))))) (Sl.below V1.out (by (repeat (first | (with_reducible exact Below.refl _ _) | ((with_reducible refine Below.set ?_ ?_ _); rotate_left; (simp <;> omega)) | (with_reducible refine Below.box_ ?_ _) | (with_reducible refine Below.next ?_ (by assumption))))))).mono ?_
  rintro e u1 ⟨rfl, hb1⟩
  obtain ⟨hc1, hf1⟩ := bcell hb1
  have hz1 : w.heap.size < u1.heap.size ∧ w.heap.size + 1 < u1.heap.size := by have := hb1.size; (try simp at this); omega
  obtain ⟨hz1a, hz1b⟩ := hz1
  go_wp2
  go_ret
  have heq : x = y := by cases x; cases y; simp only [TBigInt.mk.injEq]; exact ⟨Q0.out, Q1.out⟩
  exact ⟨ret_bool (by simp [heq]), by (repeat (first | (with_reducible exact Below.refl _ _) | ((with_reducible refine Below.set ?_ ?_ _); rotate_left; (simp <;> omega)) | (with_reducible refine Below.box_ ?_ _) | (with_reducible refine Below.next ?_ (by assumption))))⟩
set_option maxHeartbeats 1000000 in
theorem laws_eqRat (v v' : Value) (x y : TRat) (bs bs' : List Nat) (w : World) (hx : Agg w v x bs) (hy : Agg w v' y bs') : Calls Tryd.prog 21 #[v, v'] w (Gives w (.bool (decide (x = y)))) := by
  obtain ⟨A1, nA1, cA1, sA1, A2, nA2, cA2, sA2, rfl, rfl, w1, w2⟩ := TRat.agg hx
  obtain ⟨B1, nB1, cB1, sB1, B2, nB2, cB2, sB2, rfl, rfl, v1, v2⟩ := TRat.agg hy
  have W1 := hid w1; have V1 := hid v1
  have W2 := hid w2; have V2 := hid v2
  clear hx hy w1 v1 w2 v2
  by_cases q0 : x.num = y.num
  rotate_left
  · have g0 : decide (x.num = y.num) = false := by simp [q0]
    have Q := hid q0; clear q0
    go_enter Tryd.func21, Tryd.ntmps21
    go_wp2_with fail
    refine (laws_eqBigInt _ _ x.num y.num _ _ _ (TBigInt.mkAgg (Sl.below W1.out (by (repeat (first | (with_reducible exact Below.refl _ _) | ((with_reducible refine Below.set ?_ ?_ _); rotate_left; (simp <;> omega)) | (with_reducible refine Below.box_ ?_ _) | (with_reducible refine Below.next ?_ (by assumption))))))) (TBigInt.mkAgg (Sl.below V1.out (by (repeat (first | (with_reducible exact Below.refl _ _) | ((with_reducible refine Below.set ?_ ?_ _); rotate_left; (simp <;> omega)) | (with_reducible refine Below.box_ ?_ _) | (with_reducible refine Below.next ?_ (by assumption)))))))).mono ?_
    rintro e u0 ⟨rfl, hb0⟩
    obtain ⟨hc0, hf0⟩ := bcell hb0
    have hz0 : w.heap.size < u0.heap.size ∧ w.heap.size + 1 < u0.heap.size := by have := hb0.size; (try simp at this); omega
    obtain ⟨hz0a, hz0b⟩ := hz0
    go_wp2
    go_ret
    exact ⟨ret_bool (by have : x ≠ y := fun e => Q.out (by rw [e]); simp [this]), by (repeat (first | (with_reducible exact Below.refl _ _) | ((with_reducible refine Below.set ?_ ?_ _); rotate_left; (simp <;> omega)) | (with_reducible refine Below.box_ ?_ _) | (with_reducible refine Below.next ?_ (by assumption))))⟩
  have g0 : decide (x.num = y.num) = true := by simp [q0]
  have Q0 := hid q0; clear q0
  by_cases q1 : x.den = y.den
  rotate_left
  · have g1 : decide (x.den = y.den) = false := by simp [q1]
    have Q := hid q1; clear q1
    go_enter Tryd.func21, Tryd.ntmps21
    go_wp2_with fail
    refine (laws_eqBigInt _ _ x.num y.num _ _ _ (TBigInt.mkAgg (Sl.below W1.out (by (repeat (first | (with_reducible exact Below.refl _ _) | ((with_reducible refine Below.set ?_ ?_ _); rotate_left; (simp <;> omega)) | (with_reducible refine Below.box_ ?_ _) | (with_reducible refine Below.next ?_ (by assumption))))))) (TBigInt.mkAgg (Sl.below V1.out (by (repeat (first | (with_reducible exact Below.refl _ _) | ((with_reducible refine Below.set ?_ ?_ _); rotate_left; (simp <;> omega)) | (with_reducible refine Below.box_ ?_ _) | (with_reducible refine Below.next ?_ (by assumption)))))))).mono ?_
    rintro e u0 ⟨rfl, hb0⟩
    obtain ⟨hc0, hf0⟩ := bcell hb0
    have hz0 : w.heap.size < u0.heap.size ∧ w.heap.size + 1 < u0.heap.size := by have := hb0.size; (try simp at this); omega
    obtain ⟨hz0a, hz0b⟩ := hz0
    go_wp2_with fail
    refine (laws_eqIntS _ _ _ _ _ _ x.den y.den _ _ _ (Sl.below W2.out (by (repeat (first | (with_reducible exact Below.refl _ _) | ((with_reducible refine Below.set ?_ ?_ _); rotate_left; (simp <;> omega)) | (with_reducible refine Below.box_ ?_ _) | (with_reducible refine Below.next ?_ (by assumption)))))) (Sl.below V2.out (by (repeat (first | (with_reducible exact Below.refl _ _) | ((with_reducible refine Below.set ?_ ?_ _); rotate_left; (simp <;> omega)) | (with_reducible refine Below.box_ ?_ _) | (with_reducible refine Below.next ?_ (by assumption))))))).mono ?_
    rintro e u1 ⟨rfl, hb1⟩
    obtain ⟨hc1, hf1⟩ := bcell hb1
    have hz1 : w.heap.size < u1.heap.size ∧ w.heap.size + 1 < u1.heap.size := by have := hb1.size; (try simp at this); omega
    obtain ⟨hz1a, hz1b⟩ := hz1
    go_wp2
    go_ret
    exact ⟨ret_bool (by have : x ≠ y := fun e => Q.out (by rw [e]); simp [this]), by (repeat (first | (with_reducible exact Below.refl _ _) | ((with_reducible refine Below.set ?_ ?_ _); rotate_left; (simp <;> omega)) | (with_reducible refine Below.box_ ?_ _) | (with_reducible refine Below.next ?_ (by assumption))))⟩
  have g1 : decide (x.den = y.den) = true := by simp [q1]
  have Q1 := hid q1; clear q1
  go_enter Tryd.func21, Tryd.ntmps21
  go_wp2_with fail
  refine (laws_eqBigInt _ _ x.num y.num _ _ _ (TBigInt.mkAgg (Sl.below W1.out (by (repeat (first | (with_reducible exact Below.refl _ _) | ((with_reducible refine Below.set ?_ ?_ _); rotate_left; (simp <;> omega)) | (with_reducible refine Below.box_ ?_ _) | (with_reducible refine Below.next ?_ (by assumption))))))) (TBigInt.mkAgg (Sl.below V1.out (by (repeat (first | (with_reducible exact Below.refl _ _) | ((with_reducible refine Below.set ?_ ?_ _); rotate_left; (simp <;> omega)) | (with_reducible refine Below.box_ ?_ _) | (with_reducible refine Below.next ?_ (by assumption)))))))).mono ?_
  rintro e u0 ⟨rfl, hb0⟩
  obtain ⟨hc0, hf0⟩ := bcell hb0
  have hz0 : w.heap.size < u0.heap.size ∧ w.heap.size + 1 < u0.heap.size := by have := hb0.size; (try simp at this); omega
  obtain ⟨hz0a, hz0b⟩ := hz0
  go_wp2_with fail
  refine (laws_eqIntS _ _ _ _ _ _ x.den y.den _ _ _ (Sl.below W2.out (by (repeat (first | (with_reducible exact Below.refl _ _) | ((with_reducible refine Below.set ?_ ?_ _); rotate_left; (simp <;> omega)) | (with_reducible refine Below.box_ ?_ _) | (with_reducible refine Below.next ?_ (by assumption)))))) (Sl.below V2.out (by (repeat (first | (with_reducible exact Below.refl _ _) | ((with_reducible refine Below.set ?_ ?_ _); rotate_left; (simp <;> omega)) | (with_reducible refine Below.box_ ?_ _) | (with_reducible refine Below.next ?_ (by assumption))))))).mono ?_
  rintro e u1 ⟨rfl, hb1⟩
  obtain ⟨hc1, hf1⟩ := bcell hb1
  have hz1 : w.heap.size < u1.heap.size ∧ w.heap.size + 1 < u1.heap.size := by have := hb1.size; (try simp at this); omega
  obtain ⟨hz1a, hz1b⟩ := hz1
  go_wp2
  go_ret
  have heq : x = y := by cases x; cases y; simp only [TRat.mk.injEq]; exact ⟨Q0.out, Q1.out⟩
  exact ⟨ret_bool (by simp [heq]), by (repeat (first | (with_reducible exact Below.refl _ _) | ((with_reducible refine Below.set ?_ ?_ _); rotate_left; (simp <;> omega)) | (with_reducible refine Below.box_ ?_ _) | (with_reducible refine Below.next ?_ (by assumption))))⟩
set_option maxHeartbeats 1000000 in
theorem laws_eqGoal (v v' : Value) (x y : TGoal) (bs bs' : List Nat) (w : World) (hx : Agg w v x bs) (hy : Agg w v' y bs') : Calls Tryd.prog 9 #[v, v'] w (Gives w (.bool (decide (x = y)))) := by
  obtain ⟨A1, nA1, cA1, sA1, A2, nA2, cA2, sA2, A4, nA4, cA4, sA4, A5, nA5, cA5, sA5, rfl, rfl, w1, w2, w4, w5⟩ := TGoal.agg hx
  obtain ⟨B1, nB1, cB1, sB1, B2, nB2, cB2, sB2, B4, nB4, cB4, sB4, B5, nB5, cB5, sB5, rfl, rfl, v1, v2, v4, v5⟩ := TGoal.agg hy
  have W1 := hid w1; have V1 := hid v1
  have W2 := hid w2; have V2 := hid v2
  have W4 := hid w4; have V4 := hid v4
  have W5 := hid w5; have V5 := hid v5
  clear hx hy w1 v1 w2 v2 w4 v4 w5 v5
  by_cases q0 : x.value = y.value
  rotate_left
  · have g0 : decide (x.value = y.value) = false := by simp [q0]
    have Q := hid q0; clear q0
    go_enter Tryd.func9, Tryd.ntmps9
    go_wp2_with fail
    refine (laws_eqRat _ _ x.value y.value _ _ _ (TRat.mkAgg (Sl.below W1.out (by (repeat (first | (with_reducible exact Below.refl _ _) | ((with_reducible refine Below.set ?_ ?_ _); rotate_left; (simp <;> omega)) | (with_reducible refine Below.box_ ?_ _) | (with_reducible refine Below.next ?_ (by assumption)))))) (Sl.below W2.out (by (repeat (first | (with_reducible exact Below.refl _ _) | ((with_reducible refine Below.set ?_ ?_ _); rotate_left; (simp <;> omega)) | (with_reducible refine Below.box_ ?_ _) | (with_reducible refine Below.next ?_ (by assumption))))))) (TRat.mkAgg (Sl.below V1.out (by (repeat (first | (with_reducible exact Below.refl _ _) | ((with_reducible refine Below.set ?_ ?_ _); rotate_left; (simp <;> omega)) | (with_reducible refine Below.box_ ?_ _) | (with_reducible refine Below.next ?_ (by assumption)))))) (Sl.below V2.out (by (repeat (first | (with_reducible exact Below.refl _ _) | ((with_reducible refine Below.set ?_ ?_ _); rotate_left; (simp <;> omega)) | (with_reducible refine Below.box_ ?_ _) | (with_reducible refine Below.next ?_ (by assumption)))))))).mono ?_
    rintro e u0 ⟨rfl, hb0⟩
    obtain ⟨hc0, hf0⟩ := bcell hb0
    have hz0 : w.heap.size < u0.heap.size ∧ w.heap.size + 1 < u0.heap.size := by have := hb0.size; (try simp at this); omega
    obtain ⟨hz0a, hz0b⟩ := hz0
    go_wp2
    go_ret
    exact ⟨ret_bool (by have : x ≠ y := fun e => Q.out (by rw [e]); simp [this]), by (repeat (first | (with_reducible exact Below.refl _ _) | ((with_reducible refine Below.set ?_ ?_ _); rotate_left; (simp <;> omega)) | (with_reducible refine Below.box_ ?_ _) | (with_reducible refine Below.next ?_ (by assumption))))⟩
  have g0 : decide (x.value = y.value) = true := by simp [q0]
  have Q0 := hid q0; clear q0
  by_cases q1 : x.square = y.square
  rotate_left
  · have g1 : decide (x.square = y.square) = false := by simp [q1]
    have Q := hid q1; clear q1
    go_enter Tryd.func9, Tryd.ntmps9
    go_wp2_with fail
    refine (laws_eqRat _ _ x.value y.value _ _ _ (TRat.mkAgg (Sl.below W1.out (by (repeat (first | (with_reducible exact Below.refl _ _) | ((with_reducible refine Below.set ?_ ?_ _); rotate_left; (simp <;> omega)) | (with_reducible refine Below.box_ ?_ _) | (with_reducible refine Below.next ?_ (by assumption)))))) (Sl.below W2.out (by (repeat (first | (with_reducible exact Below.refl _ _) | ((with_reducible refine Below.set ?_ ?_ _); rotate_left; (simp <;> omega)) | (with_reducible refine Below.box_ ?_ _) | (with_reducible refine Below.next ?_ (by assumption))))))) (TRat.mkAgg (Sl.below V1.out (by (repeat (first | (with_reducible exact Below.refl _ _) | ((with_reducible refine Below.set ?_ ?_ _); rotate_left; (simp <;> omega)) | (with_reducible refine Below.box_ ?_ _) | (with_reducible refine Below.next ?_ (by assumption)))))) (Sl.below V2.out (by (repeat (first | (with_reducible exact Below.refl _ _) | ((with_reducible refine Below.set ?_ ?_ _); rotate_left; (simp <;> omega)) | (with_reducible refine Below.box_ ?_ _) | (with_reducible refine Below.next ?_ (by assumption)))))))).mono ?_
    rintro e u0 ⟨rfl, hb0⟩
    obtain ⟨hc0, hf0⟩ := bcell hb0
    have hz0 : w.heap.size < u0.heap.size ∧ w.heap.size + 1 < u0.heap.size := by have := hb0.size; (try simp at this); omega
    obtain ⟨hz0a, hz0b⟩ := hz0
    go_wp2_with fail
    refine (laws_eqRat _ _ x.square y.square _ _ _ (TRat.mkAgg (Sl.below W4.out (by (repeat (first | (with_reducible exact Below.refl _ _) | ((with_reducible refine Below.set ?_ ?_ _); rotate_left; (simp <;> omega)) | (with_reducible refine Below.box_ ?_ _) | (with_reducible refine Below.next ?_ (by assumption)))))) (Sl.below W5.out (by (repeat (first | (with_reducible exact Below.refl _ _) | ((with_reducible refine Below.set ?_ ?_ _); rotate_left; (simp <;> omega)) | (with_reducible refine Below.box_ ?_ _) | (with_reducible refine Below.next ?_ (by assumption))))))) (TRat.mkAgg (Sl.below V4.out (by (repeat (first | (with_reducible exact Below.refl _ _) | ((with_reducible refine Below.set ?_ ?_ _); rotate_left; (simp <;> omega)) | (with_reducible refine Below.box_ ?_ _) | (with_reducible refine Below.next ?_ (by assumption)))))) (Sl.below V5.out (by (repeat (first | (with_reducible exact Below.refl _ _) | ((with_reducible refine Below.set ?_ ?_ _); rotate_left; (simp <;> omega)) | (with_reducible refine Below.box_ ?_ _) | (with_reducible refine Below.next ?_ (by assumption)))))))).mono ?_
    rintro e u1 ⟨rfl, hb1⟩
    obtain ⟨hc1, hf1⟩ := bcell hb1
    have hz1 : w.heap.size < u1.heap.size ∧ w.heap.size + 1 < u1.heap.size := by have := hb1.size; (try simp at this); omega
    obtain ⟨hz1a, hz1b⟩ := hz1
    go_wp2
    go_ret
    exact ⟨ret_bool (by have : x ≠ y := fun e => Q.out (by rw [e]); simp [this]), by (repeat (first | (with_reducible exact Below.refl _ _) | ((with_reducible refine Below.set ?_ ?_ _); rotate_left; (simp <;> omega)) | (with_reducible refine Below.box_ ?_ _) | (with_reducible refine Below.next ?_ (by assumption))))⟩
  have g1 : decide (x.square = y.square) = true := by simp [q1]
  have Q1 := hid q1; clear q1
  go_enter Tryd.func9, Tryd.ntmps9
  go_wp2_with fail
  refine (laws_eqRat _ _ x.value y.value _ _ _ (TRat.mkAgg (Sl.below W1.out (by (repeat (first | (with_reducible exact Below.refl _ _) | ((with_reducible refine Below.set ?_ ?_ _); rotate_left; (simp <;> omega)) | (with_reducible refine Below.box_ ?_ _) | (with_reducible refine Below.next ?_ (by assumption)))))) (Sl.below W2.out (by (repeat (first | (with_reducible exact Below.refl _ _) | ((with_reducible refine Below.set ?_ ?_ _); rotate_left; (simp <;> omega)) | (with_reducible refine Below.box_ ?_ _) | (with_reducible refine Below.next ?_ (by assumption))))))) (TRat.mkAgg (Sl.below V1.out (by (repeat (first | (with_reducible exact Below.refl _ _) | ((with_reducible refine Below.set ?_ ?_ _); rotate_left; (simp <;> omega)) | (with_reducible refine Below.box_ ?_ _) | (with_reducible refine Below.next ?_ (by assumption)))))) (Sl.below V2.out (by (repeat (first | (with_reducible exact Below.refl _ _) | ((with_reducible refine Below.set ?_ ?_ _); rotate_left; (simp <;> omega)) | (with_reducible refine Below.box_ ?_ _) | (with_reducible refine Below.next ?_ (by assumption)))))))).mono ?_
  rintro e u0 ⟨rfl, hb0⟩
  obtain ⟨hc0, hf0⟩ := bcell hb0
  have hz0 : w.heap.size < u0.heap.size ∧ w.heap.size + 1 < u0.heap.size := by have := hb0.size; (try simp at this); omega
  obtain ⟨hz0a, hz0b⟩ := hz0
  go_wp2_with fail
  refine (laws_eqRat _ _ x.square y.square _ _ _ (TRat.mkAgg (Sl.below W4.out (by (repeat (first | (with_reducible exact Below.refl _ _) | ((with_reducible refine Below.set ?_ ?_ _); rotate_left; (simp <;> omega)) | (with_reducible refine Below.box_ ?_ _) | (with_reducible refine Below.next ?_ (by assumption)))))) (Sl.below W5.out (by (repeat (first | (with_reducible exact Below.refl _ _) | ((with_reducible refine Below.set ?_ ?_ _); rotate_left; (simp <;> omega)) | (with_reducible refine Below.box_ ?_ _) | (with_reducible refine Below.next ?_ (by assumption))))))) (TRat.mkAgg (Sl.below V4.out (by (repeat (first | (with_reducible exact Below.refl _ _) | ((with_reducible refine Below.set ?_ ?_ _); rotate_left; (simp <;> omega)) | (with_reducible refine Below.box_ ?_ _) | (with_reducible refine Below.next ?_ (by assumption)))))) (Sl.below V5.out (by (repeat (first | (with_reducible exact Below.refl _ _) | ((with_reducible refine Below.set ?_ ?_ _); rotate_left; (simp <;> omega)) | (with_reducible refine Below.box_ ?_ _) | (with_reducible refine Below.next ?_ (by assumption)))))))).mono ?_
  rintro e u1 ⟨rfl, hb1⟩
  obtain ⟨hc1, hf1⟩ := bcell hb1
  have hz1 : w.heap.size < u1.heap.size ∧ w.heap.size + 1 < u1.heap.size := by have := hb1.size; (try simp at this); omega
  obtain ⟨hz1a, hz1b⟩ := hz1
  go_wp2
  go_ret
  have heq : x = y := by cases x; cases y; simp only [TGoal.mk.injEq]; exact ⟨Q0.out, Q1.out⟩
  exact ⟨ret_bool (by simp [heq]), by (repeat (first | (with_reducible exact Below.refl _ _) | ((with_reducible refine Below.set ?_ ?_ _); rotate_left; (simp <;> omega)) | (with_reducible refine Below.box_ ?_ _) | (with_reducible refine Below.next ?_ (by assumption))))⟩
set_option maxHeartbeats 1000000 in
theorem laws_eqReport (v v' : Value) (x y : TReport) (bs bs' : List Nat) (w : World) (hx : Agg w v x bs) (hy : Agg w v' y bs') : Calls Tryd.prog 14 #[v, v'] w (Gives w (.bool (decide (x = y)))) := by
  obtain ⟨A2, nA2, cA2, sA2, A3, nA3, cA3, sA3, A5, nA5, cA5, sA5, A6, nA6, cA6, sA6, rfl, rfl, w0, w2, w3, w5, w6⟩ := TReport.agg hx
  obtain ⟨B2, nB2, cB2, sB2, B3, nB3, cB3, sB3, B5, nB5, cB5, sB5, B6, nB6, cB6, sB6, rfl, rfl, v0, v2, v3, v5, v6⟩ := TReport.agg hy
  have W0 := hid w0; have V0 := hid v0
  have W2 := hid w2; have V2 := hid v2
  have W3 := hid w3; have V3 := hid v3
  have W5 := hid w5; have V5 := hid v5
  have W6 := hid w6; have V6 := hid v6
  clear hx hy w0 v0 w2 v2 w3 v3 w5 v5 w6 v6
  by_cases q0 : x.triangles = y.triangles
  rotate_left
  · have g0 : (x.triangles != y.triangles) = true := by simp [q0]
    have Q := hid q0; clear q0
    go_enter Tryd.func14, Tryd.ntmps14
    go_wp2
    go_ret
    exact ⟨ret_bool (by have : x ≠ y := fun e => Q.out (by rw [e]); simp [this]), by (repeat (first | (with_reducible exact Below.refl _ _) | ((with_reducible refine Below.set ?_ ?_ _); rotate_left; (simp <;> omega)) | (with_reducible refine Below.box_ ?_ _) | (with_reducible refine Below.next ?_ (by assumption))))⟩
  have g0 : (x.triangles != y.triangles) = false := by simp [q0]
  have Q0 := hid q0; clear q0
  by_cases q1 : x.energy = y.energy
  rotate_left
  · have g1 : decide (x.energy = y.energy) = false := by simp [q1]
    have Q := hid q1; clear q1
    go_enter Tryd.func14, Tryd.ntmps14
    go_wp2_with fail
    refine (laws_eqRat _ _ x.energy y.energy _ _ _ (TRat.mkAgg (Sl.below W2.out (by (repeat (first | (with_reducible exact Below.refl _ _) | ((with_reducible refine Below.set ?_ ?_ _); rotate_left; (simp <;> omega)) | (with_reducible refine Below.box_ ?_ _) | (with_reducible refine Below.next ?_ (by assumption)))))) (Sl.below W3.out (by (repeat (first | (with_reducible exact Below.refl _ _) | ((with_reducible refine Below.set ?_ ?_ _); rotate_left; (simp <;> omega)) | (with_reducible refine Below.box_ ?_ _) | (with_reducible refine Below.next ?_ (by assumption))))))) (TRat.mkAgg (Sl.below V2.out (by (repeat (first | (with_reducible exact Below.refl _ _) | ((with_reducible refine Below.set ?_ ?_ _); rotate_left; (simp <;> omega)) | (with_reducible refine Below.box_ ?_ _) | (with_reducible refine Below.next ?_ (by assumption)))))) (Sl.below V3.out (by (repeat (first | (with_reducible exact Below.refl _ _) | ((with_reducible refine Below.set ?_ ?_ _); rotate_left; (simp <;> omega)) | (with_reducible refine Below.box_ ?_ _) | (with_reducible refine Below.next ?_ (by assumption)))))))).mono ?_
    rintro e u1 ⟨rfl, hb1⟩
    obtain ⟨hc1, hf1⟩ := bcell hb1
    have hz1 : w.heap.size < u1.heap.size ∧ w.heap.size + 1 < u1.heap.size := by have := hb1.size; (try simp at this); omega
    obtain ⟨hz1a, hz1b⟩ := hz1
    go_wp2
    go_ret
    exact ⟨ret_bool (by have : x ≠ y := fun e => Q.out (by rw [e]); simp [this]), by (repeat (first | (with_reducible exact Below.refl _ _) | ((with_reducible refine Below.set ?_ ?_ _); rotate_left; (simp <;> omega)) | (with_reducible refine Below.box_ ?_ _) | (with_reducible refine Below.next ?_ (by assumption))))⟩
  have g1 : decide (x.energy = y.energy) = true := by simp [q1]
  have Q1 := hid q1; clear q1
  by_cases q2 : x.bound = y.bound
  rotate_left
  · have g2 : decide (x.bound = y.bound) = false := by simp [q2]
    have Q := hid q2; clear q2
    go_enter Tryd.func14, Tryd.ntmps14
    go_wp2_with fail
    refine (laws_eqRat _ _ x.energy y.energy _ _ _ (TRat.mkAgg (Sl.below W2.out (by (repeat (first | (with_reducible exact Below.refl _ _) | ((with_reducible refine Below.set ?_ ?_ _); rotate_left; (simp <;> omega)) | (with_reducible refine Below.box_ ?_ _) | (with_reducible refine Below.next ?_ (by assumption)))))) (Sl.below W3.out (by (repeat (first | (with_reducible exact Below.refl _ _) | ((with_reducible refine Below.set ?_ ?_ _); rotate_left; (simp <;> omega)) | (with_reducible refine Below.box_ ?_ _) | (with_reducible refine Below.next ?_ (by assumption))))))) (TRat.mkAgg (Sl.below V2.out (by (repeat (first | (with_reducible exact Below.refl _ _) | ((with_reducible refine Below.set ?_ ?_ _); rotate_left; (simp <;> omega)) | (with_reducible refine Below.box_ ?_ _) | (with_reducible refine Below.next ?_ (by assumption)))))) (Sl.below V3.out (by (repeat (first | (with_reducible exact Below.refl _ _) | ((with_reducible refine Below.set ?_ ?_ _); rotate_left; (simp <;> omega)) | (with_reducible refine Below.box_ ?_ _) | (with_reducible refine Below.next ?_ (by assumption)))))))).mono ?_
    rintro e u1 ⟨rfl, hb1⟩
    obtain ⟨hc1, hf1⟩ := bcell hb1
    have hz1 : w.heap.size < u1.heap.size ∧ w.heap.size + 1 < u1.heap.size := by have := hb1.size; (try simp at this); omega
    obtain ⟨hz1a, hz1b⟩ := hz1
    go_wp2_with fail
    refine (laws_eqRat _ _ x.bound y.bound _ _ _ (TRat.mkAgg (Sl.below W5.out (by (repeat (first | (with_reducible exact Below.refl _ _) | ((with_reducible refine Below.set ?_ ?_ _); rotate_left; (simp <;> omega)) | (with_reducible refine Below.box_ ?_ _) | (with_reducible refine Below.next ?_ (by assumption)))))) (Sl.below W6.out (by (repeat (first | (with_reducible exact Below.refl _ _) | ((with_reducible refine Below.set ?_ ?_ _); rotate_left; (simp <;> omega)) | (with_reducible refine Below.box_ ?_ _) | (with_reducible refine Below.next ?_ (by assumption))))))) (TRat.mkAgg (Sl.below V5.out (by (repeat (first | (with_reducible exact Below.refl _ _) | ((with_reducible refine Below.set ?_ ?_ _); rotate_left; (simp <;> omega)) | (with_reducible refine Below.box_ ?_ _) | (with_reducible refine Below.next ?_ (by assumption)))))) (Sl.below V6.out (by (repeat (first | (with_reducible exact Below.refl _ _) | ((with_reducible refine Below.set ?_ ?_ _); rotate_left; (simp <;> omega)) | (with_reducible refine Below.box_ ?_ _) | (with_reducible refine Below.next ?_ (by assumption)))))))).mono ?_
    rintro e u2 ⟨rfl, hb2⟩
    obtain ⟨hc2, hf2⟩ := bcell hb2
    have hz2 : w.heap.size < u2.heap.size ∧ w.heap.size + 1 < u2.heap.size := by have := hb2.size; (try simp at this); omega
    obtain ⟨hz2a, hz2b⟩ := hz2
    go_wp2
    go_ret
    exact ⟨ret_bool (by have : x ≠ y := fun e => Q.out (by rw [e]); simp [this]), by (repeat (first | (with_reducible exact Below.refl _ _) | ((with_reducible refine Below.set ?_ ?_ _); rotate_left; (simp <;> omega)) | (with_reducible refine Below.box_ ?_ _) | (with_reducible refine Below.next ?_ (by assumption))))⟩
  have g2 : decide (x.bound = y.bound) = true := by simp [q2]
  have Q2 := hid q2; clear q2
  go_enter Tryd.func14, Tryd.ntmps14
  go_wp2_with fail
  refine (laws_eqRat _ _ x.energy y.energy _ _ _ (TRat.mkAgg (Sl.below W2.out (by (repeat (first | (with_reducible exact Below.refl _ _) | ((with_reducible refine Below.set ?_ ?_ _); rotate_left; (simp <;> omega)) | (with_reducible refine Below.box_ ?_ _) | (with_reducible refine Below.next ?_ (by assumption)))))) (Sl.below W3.out (by (repeat (first | (with_reducible exact Below.refl _ _) | ((with_reducible refine Below.set ?_ ?_ _); rotate_left; (simp <;> omega)) | (with_reducible refine Below.box_ ?_ _) | (with_reducible refine Below.next ?_ (by assumption))))))) (TRat.mkAgg (Sl.below V2.out (by (repeat (first | (with_reducible exact Below.refl _ _) | ((with_reducible refine Below.set ?_ ?_ _); rotate_left; (simp <;> omega)) | (with_reducible refine Below.box_ ?_ _) | (with_reducible refine Below.next ?_ (by assumption)))))) (Sl.below V3.out (by (repeat (first | (with_reducible exact Below.refl _ _) | ((with_reducible refine Below.set ?_ ?_ _); rotate_left; (simp <;> omega)) | (with_reducible refine Below.box_ ?_ _) | (with_reducible refine Below.next ?_ (by assumption)))))))).mono ?_
  rintro e u1 ⟨rfl, hb1⟩
  obtain ⟨hc1, hf1⟩ := bcell hb1
  have hz1 : w.heap.size < u1.heap.size ∧ w.heap.size + 1 < u1.heap.size := by have := hb1.size; (try simp at this); omega
  obtain ⟨hz1a, hz1b⟩ := hz1
  go_wp2_with fail
  refine (laws_eqRat _ _ x.bound y.bound _ _ _ (TRat.mkAgg (Sl.below W5.out (by (repeat (first | (with_reducible exact Below.refl _ _) | ((with_reducible refine Below.set ?_ ?_ _); rotate_left; (simp <;> omega)) | (with_reducible refine Below.box_ ?_ _) | (with_reducible refine Below.next ?_ (by assumption)))))) (Sl.below W6.out (by (repeat (first | (with_reducible exact Below.refl _ _) | ((with_reducible refine Below.set ?_ ?_ _); rotate_left; (simp <;> omega)) | (with_reducible refine Below.box_ ?_ _) | (with_reducible refine Below.next ?_ (by assumption))))))) (TRat.mkAgg (Sl.below V5.out (by (repeat (first | (with_reducible exact Below.refl _ _) | ((with_reducible refine Below.set ?_ ?_ _); rotate_left; (simp <;> omega)) | (with_reducible refine Below.box_ ?_ _) | (with_reducible refine Below.next ?_ (by assumption)))))) (Sl.below V6.out (by (repeat (first | (with_reducible exact Below.refl _ _) | ((with_reducible refine Below.set ?_ ?_ _); rotate_left; (simp <;> omega)) | (with_reducible refine Below.box_ ?_ _) | (with_reducible refine Below.next ?_ (by assumption)))))))).mono ?_
  rintro e u2 ⟨rfl, hb2⟩
  obtain ⟨hc2, hf2⟩ := bcell hb2
  have hz2 : w.heap.size < u2.heap.size ∧ w.heap.size + 1 < u2.heap.size := by have := hb2.size; (try simp at this); omega
  obtain ⟨hz2a, hz2b⟩ := hz2
  go_wp2
  go_ret
  have heq : x = y := by cases x; cases y; simp only [TReport.mk.injEq]; exact ⟨Q0.out, Q1.out, Q2.out⟩
  exact ⟨ret_bool (by simp [heq]), by (repeat (first | (with_reducible exact Below.refl _ _) | ((with_reducible refine Below.set ?_ ?_ _); rotate_left; (simp <;> omega)) | (with_reducible refine Below.box_ ?_ _) | (with_reducible refine Below.next ?_ (by assumption))))⟩
end Go.Proofs.YthlpjpcnpcclhaaDoor.X

/- An argument is opened: what the reader of the row reads is data in cells, as XMem has it. Written by gen_open.py. -/
namespace Go.XB
open Go.RowKit Go.ChangeShapes Go.WideShapes Go.Deep

/-- What reads as type t is data of α. -/
def Opens (P : Program) (t : TypeId) (α : Type) [Dat α] : Prop :=
  ∀ {H : Type} (enc : TypeId × Value → H) (w : World) (fuel : Nat) (cs : List Value) (y : DataW H × List MemPlace), DataW.trod enc P w 0 (fun _ => true) true fuel t cs = some y → ∃ (x : α) (bs : List Nat), Dat.at_ w cs x bs

section
variable {P : Program} {t e : TypeId}

theorem Opens.int (ht : P.underlying t = some (.int .i64)) : Opens P t Int := fun enc w fuel cs y h => by
  obtain ⟨n, rfl, _, hn⟩ := DataW.trod_int ht h
  exact ⟨n, [], rfl, rfl, by
    simp [Lit.wf, IntKind.min, IntKind.max, IntKind.signed, IntKind.bits] at hn
    unfold I64; omega⟩

theorem Opens.bool (ht : P.underlying t = some .bool) : Opens P t Bool := fun enc w fuel cs y h => by
  obtain ⟨b, rfl, _⟩ := DataW.trod_bool ht h
  exact ⟨b, [], rfl, rfl⟩

theorem Opens.string (ht : P.underlying t = some .string) : Opens P t ByteArray := fun enc w fuel cs y h => by
  obtain ⟨s, rfl, _, hs⟩ := DataW.trod_string ht h
  exact ⟨s, [], rfl, rfl, hs⟩

theorem lists_of {α : Type} (p : Nat → α → List Nat → Prop) : ∀ n, (∀ i, i < n → ∃ x fs, p i x fs) → ∃ (xs : List α) (fss : List (List Nat)), xs.length = n ∧ fss.length = n ∧ ∀ i x fs, xs[i]? = some x → fss[i]? = some fs → p i x fs
  | 0, _ => ⟨[], [], rfl, rfl, fun i x fs h => by simp at h⟩
  | n + 1, h => by
    obtain ⟨xs, fss, h1, h2, h3⟩ := lists_of p n fun i hi => h i (by omega)
    obtain ⟨x, fs, hp⟩ := h n (by omega)
    refine ⟨xs ++ [x], fss ++ [fs], by simp [h1], by simp [h2], fun i y gs hy hg => ?_⟩
    by_cases hi : i < n
    · rw [List.getElem?_append_left (by omega)] at hy hg
      exact h3 i y gs hy hg
    · have hin : i = n := by have := (List.getElem?_eq_some_iff.1 hy).1; simp at this; omega
      subst hin
      rw [List.getElem?_append_right (by omega), h1] at hy
      rw [List.getElem?_append_right (by omega), h2] at hg
      simp at hy hg
      subst hy; subst hg
      exact hp

theorem Opens.slice {α : Type} [Dat α] (ht : P.underlying t = some (.slice e)) (hc : P.cellsOf e = Dat.sz α) (ho : Opens P e α) : Opens P t (List α) := fun enc w fuel cs y h => by
  rcases open_slice ht h with ⟨rfl, _⟩ | ⟨a, len, cap, m, n, DD, Pl, rfl, _, hl, hm, hmm, _, hi⟩
  · exact ⟨[], [], none, 0, 0, rfl, Sl.nil w⟩
  · have hlm : len ≤ m := by rw [hmm]; simpa using hl
    rcases Nat.eq_zero_or_pos len with h0 | h0
    · subst h0
      exact ⟨[], [], _, 0, cap, rfl, rfl, hl, hm, fun _ => rfl, fun h => absurd h (by omega)⟩
    · obtain ⟨xs, fss, h1, h2, h3⟩ := lists_of (α := α) (fun i x fs => ∃ cs', w.cells? 0 (a.add (i * Dat.sz α)) (Dat.sz α) = some cs' ∧ Dat.at_ w cs' x fs) len fun i hil => by
        obtain ⟨cs', hcs, ht'⟩ := hi i (by omega)
        rw [hc] at hcs
        obtain ⟨x, fs, ha⟩ := ho enc w _ _ _ ht'
        exact ⟨x, fs, cs', hcs, ha⟩
      have hpos : 0 < Dat.sz α := Dat.pos
      obtain ⟨cs0, hcs0, _⟩ := h3 0 _ _ (List.getElem?_eq_getElem (by omega)) (List.getElem?_eq_getElem (by omega))
      obtain ⟨_, hl0, hat0⟩ := World.cells?_some hcs0
      have hc0 := hat0 (i := 0) (by omega)
      rw [Nat.zero_mul] at hc0
      have hspot : a.spot = none := by
        have he : w.cell? ((a.add 0).add 0) = some (cs0[0]'(by omega)) := by rw [hc0]; exact List.getElem?_eq_getElem (by omega)
        simp only [Addr.add, if_true] at he
        unfold World.cell? at he
        split at he
        · split at he
          · cases he
          · rename_i hs; simpa using hs
        · cases he
      have hblk : a.block < w.heap.size := by
        have he : w.cell? ((a.add 0).add 0) = some (cs0[0]'(by omega)) := by rw [hc0]; exact List.getElem?_eq_getElem (by omega)
        have := block_lt_of_cell he
        simpa [block_add] using this
      refine ⟨xs, a.block :: fss.flatten, _, len, cap, rfl, h1, hl, hm, fun h => absurd h (by omega), fun _ => ⟨a.block, a.off, fss, ?_, rfl, by rw [h1, h2], hblk, fun k x fs hx hf => ?_⟩⟩
      · cases a; simp only at hspot; subst hspot; rfl
      · obtain ⟨cs', hcs, ha⟩ := h3 k x fs hx hf
        obtain ⟨_, hlc, hat⟩ := World.cells?_some hcs
        refine ⟨cs', fun j u hu => ?_, ha⟩
        have hj : j < Dat.sz α := by rw [← hlc]; exact (List.getElem?_eq_some_iff.1 hu).1
        have := hat (i := j) hj
        rw [hu] at this
        rw [← this]
        congr 1
        cases a
        simp only at hspot
        subst hspot
        unfold Addr.add
        by_cases hz1 : k * Dat.sz α = 0 <;> by_cases hz2 : j = 0 <;> simp [hz1, hz2, Nat.add_assoc]

theorem seg {α : Type} [Dat α] {f : Field} (ho : Opens P f.type α) (hc : P.cellsOf f.type = Dat.sz α) {H : Type} {enc : TypeId × Value → H} {w : World} {fuel o : Nat} {cs : List Value} {y : Option (DataW H × List MemPlace)}
    (hoff : f.offset = o) (h : DataW.trod enc P w 0 (fun _ => true) true fuel f.type ((cs.drop f.offset).take (P.cellsOf f.type)) = y) (hy : y.isSome = true) :
    ∃ (x : α) (bs : List Nat), Dat.at_ w ((cs.drop o).take (Dat.sz α)) x bs := by
  cases y with
  | none => cases hy
  | some y => rw [hoff, hc] at h; exact ho enc w _ _ _ h

theorem Opens.struct1 {α0 : Type} [Dat α0] {f0 : Field} (ht : P.underlying t = some (.struct #[f0])) (o0 : f0.offset = 0) (c0 : P.cellsOf f0.type = Dat.sz α0) (p0 : Opens P f0.type α0) (hc : P.cellsOf t = Dat.sz α0) : Opens P t (α0) := fun enc w fuel cs y h => by
  obtain ⟨xs, n, _, _, hlen, hxl, hg⟩ := DataW.trod_struct ht h
  have hxl' : xs.length = 1 := hxl
  obtain ⟨x0, b0, a0⟩ := seg p0 c0 o0 (hg 0 f0 rfl) (by rw [List.getElem?_eq_getElem (by omega)]; rfl)
  refine ⟨x0, b0, ?_⟩
  have e : cs = (cs.drop 0).take (Dat.sz α0) := by rw [List.drop_zero, List.take_of_length_le (by omega)]
  rw [e]; exact a0

theorem Opens.struct2 {α0 : Type} [Dat α0] {α1 : Type} [Dat α1] {f0 f1 : Field} (ht : P.underlying t = some (.struct #[f0, f1])) (o0 : f0.offset = 0) (c0 : P.cellsOf f0.type = Dat.sz α0) (p0 : Opens P f0.type α0) (o1 : f1.offset = Dat.sz α0) (c1 : P.cellsOf f1.type = Dat.sz α1) (p1 : Opens P f1.type α1) (hc : P.cellsOf t = Dat.sz α0 + Dat.sz α1) : Opens P t (α0 × α1) := fun enc w fuel cs y h => by
  obtain ⟨xs, n, _, _, hlen, hxl, hg⟩ := DataW.trod_struct ht h
  have hxl' : xs.length = 2 := hxl
  obtain ⟨x0, b0, a0⟩ := seg p0 c0 o0 (hg 0 f0 rfl) (by rw [List.getElem?_eq_getElem (by omega)]; rfl)
  obtain ⟨x1, b1, a1⟩ := seg p1 c1 o1 (hg 1 f1 rfl) (by rw [List.getElem?_eq_getElem (by omega)]; rfl)
  rw [hc] at hlen
  have e : cs.drop 0 = (cs.drop (0)).take (Dat.sz α0) ++ ((cs.drop (Dat.sz α0)).take (Dat.sz α1)) := by
    have s1 : cs.drop (Dat.sz α0) = (cs.drop (Dat.sz α0)).take (Dat.sz α1) := by rw [List.take_of_length_le (by rw [List.length_drop]; omega)]
    have s0 : cs.drop (0) = (cs.drop (0)).take (Dat.sz α0) ++ cs.drop (Dat.sz α0) := by
      have := (List.take_append_drop (Dat.sz α0) (cs.drop (0))).symm
      rwa [List.drop_drop, Nat.zero_add] at this
    rw [s1] at s0
    exact s0
  refine ⟨(x0, x1), b0 ++ (b1), ?_⟩
  rw [List.drop_zero] at e
  exact ⟨_, _, _, _, e, rfl, a0, a1⟩

theorem Opens.struct3 {α0 : Type} [Dat α0] {α1 : Type} [Dat α1] {α2 : Type} [Dat α2] {f0 f1 f2 : Field} (ht : P.underlying t = some (.struct #[f0, f1, f2])) (o0 : f0.offset = 0) (c0 : P.cellsOf f0.type = Dat.sz α0) (p0 : Opens P f0.type α0) (o1 : f1.offset = Dat.sz α0) (c1 : P.cellsOf f1.type = Dat.sz α1) (p1 : Opens P f1.type α1) (o2 : f2.offset = Dat.sz α0 + Dat.sz α1) (c2 : P.cellsOf f2.type = Dat.sz α2) (p2 : Opens P f2.type α2) (hc : P.cellsOf t = Dat.sz α0 + Dat.sz α1 + Dat.sz α2) : Opens P t (α0 × α1 × α2) := fun enc w fuel cs y h => by
  obtain ⟨xs, n, _, _, hlen, hxl, hg⟩ := DataW.trod_struct ht h
  have hxl' : xs.length = 3 := hxl
  obtain ⟨x0, b0, a0⟩ := seg p0 c0 o0 (hg 0 f0 rfl) (by rw [List.getElem?_eq_getElem (by omega)]; rfl)
  obtain ⟨x1, b1, a1⟩ := seg p1 c1 o1 (hg 1 f1 rfl) (by rw [List.getElem?_eq_getElem (by omega)]; rfl)
  obtain ⟨x2, b2, a2⟩ := seg p2 c2 o2 (hg 2 f2 rfl) (by rw [List.getElem?_eq_getElem (by omega)]; rfl)
  rw [hc] at hlen
  have e : cs.drop 0 = (cs.drop (0)).take (Dat.sz α0) ++ ((cs.drop (Dat.sz α0)).take (Dat.sz α1) ++ ((cs.drop (Dat.sz α0 + Dat.sz α1)).take (Dat.sz α2))) := by
    have s2 : cs.drop (Dat.sz α0 + Dat.sz α1) = (cs.drop (Dat.sz α0 + Dat.sz α1)).take (Dat.sz α2) := by rw [List.take_of_length_le (by rw [List.length_drop]; omega)]
    have s1 : cs.drop (Dat.sz α0) = (cs.drop (Dat.sz α0)).take (Dat.sz α1) ++ cs.drop (Dat.sz α0 + Dat.sz α1) := by
      have := (List.take_append_drop (Dat.sz α1) (cs.drop (Dat.sz α0))).symm
      rwa [List.drop_drop] at this
    have s0 : cs.drop (0) = (cs.drop (0)).take (Dat.sz α0) ++ cs.drop (Dat.sz α0) := by
      have := (List.take_append_drop (Dat.sz α0) (cs.drop (0))).symm
      rwa [List.drop_drop, Nat.zero_add] at this
    rw [s1, s2] at s0
    exact s0
  refine ⟨(x0, x1, x2), b0 ++ (b1 ++ (b2)), ?_⟩
  rw [List.drop_zero] at e
  exact ⟨_, _, _, _, e, rfl, a0, ⟨_, _, _, _, rfl, rfl, a1, a2⟩⟩

theorem Opens.struct4 {α0 : Type} [Dat α0] {α1 : Type} [Dat α1] {α2 : Type} [Dat α2] {α3 : Type} [Dat α3] {f0 f1 f2 f3 : Field} (ht : P.underlying t = some (.struct #[f0, f1, f2, f3])) (o0 : f0.offset = 0) (c0 : P.cellsOf f0.type = Dat.sz α0) (p0 : Opens P f0.type α0) (o1 : f1.offset = Dat.sz α0) (c1 : P.cellsOf f1.type = Dat.sz α1) (p1 : Opens P f1.type α1) (o2 : f2.offset = Dat.sz α0 + Dat.sz α1) (c2 : P.cellsOf f2.type = Dat.sz α2) (p2 : Opens P f2.type α2) (o3 : f3.offset = Dat.sz α0 + Dat.sz α1 + Dat.sz α2) (c3 : P.cellsOf f3.type = Dat.sz α3) (p3 : Opens P f3.type α3) (hc : P.cellsOf t = Dat.sz α0 + Dat.sz α1 + Dat.sz α2 + Dat.sz α3) : Opens P t (α0 × α1 × α2 × α3) := fun enc w fuel cs y h => by
  obtain ⟨xs, n, _, _, hlen, hxl, hg⟩ := DataW.trod_struct ht h
  have hxl' : xs.length = 4 := hxl
  obtain ⟨x0, b0, a0⟩ := seg p0 c0 o0 (hg 0 f0 rfl) (by rw [List.getElem?_eq_getElem (by omega)]; rfl)
  obtain ⟨x1, b1, a1⟩ := seg p1 c1 o1 (hg 1 f1 rfl) (by rw [List.getElem?_eq_getElem (by omega)]; rfl)
  obtain ⟨x2, b2, a2⟩ := seg p2 c2 o2 (hg 2 f2 rfl) (by rw [List.getElem?_eq_getElem (by omega)]; rfl)
  obtain ⟨x3, b3, a3⟩ := seg p3 c3 o3 (hg 3 f3 rfl) (by rw [List.getElem?_eq_getElem (by omega)]; rfl)
  rw [hc] at hlen
  have e : cs.drop 0 = (cs.drop (0)).take (Dat.sz α0) ++ ((cs.drop (Dat.sz α0)).take (Dat.sz α1) ++ ((cs.drop (Dat.sz α0 + Dat.sz α1)).take (Dat.sz α2) ++ ((cs.drop (Dat.sz α0 + Dat.sz α1 + Dat.sz α2)).take (Dat.sz α3)))) := by
    have s3 : cs.drop (Dat.sz α0 + Dat.sz α1 + Dat.sz α2) = (cs.drop (Dat.sz α0 + Dat.sz α1 + Dat.sz α2)).take (Dat.sz α3) := by rw [List.take_of_length_le (by rw [List.length_drop]; omega)]
    have s2 : cs.drop (Dat.sz α0 + Dat.sz α1) = (cs.drop (Dat.sz α0 + Dat.sz α1)).take (Dat.sz α2) ++ cs.drop (Dat.sz α0 + Dat.sz α1 + Dat.sz α2) := by
      have := (List.take_append_drop (Dat.sz α2) (cs.drop (Dat.sz α0 + Dat.sz α1))).symm
      rwa [List.drop_drop] at this
    have s1 : cs.drop (Dat.sz α0) = (cs.drop (Dat.sz α0)).take (Dat.sz α1) ++ cs.drop (Dat.sz α0 + Dat.sz α1) := by
      have := (List.take_append_drop (Dat.sz α1) (cs.drop (Dat.sz α0))).symm
      rwa [List.drop_drop] at this
    have s0 : cs.drop (0) = (cs.drop (0)).take (Dat.sz α0) ++ cs.drop (Dat.sz α0) := by
      have := (List.take_append_drop (Dat.sz α0) (cs.drop (0))).symm
      rwa [List.drop_drop, Nat.zero_add] at this
    rw [s1, s2, s3] at s0
    exact s0
  refine ⟨(x0, x1, x2, x3), b0 ++ (b1 ++ (b2 ++ (b3))), ?_⟩
  rw [List.drop_zero] at e
  exact ⟨_, _, _, _, e, rfl, a0, ⟨_, _, _, _, rfl, rfl, a1, ⟨_, _, _, _, rfl, rfl, a2, a3⟩⟩⟩

theorem Opens.struct5 {α0 : Type} [Dat α0] {α1 : Type} [Dat α1] {α2 : Type} [Dat α2] {α3 : Type} [Dat α3] {α4 : Type} [Dat α4] {f0 f1 f2 f3 f4 : Field} (ht : P.underlying t = some (.struct #[f0, f1, f2, f3, f4])) (o0 : f0.offset = 0) (c0 : P.cellsOf f0.type = Dat.sz α0) (p0 : Opens P f0.type α0) (o1 : f1.offset = Dat.sz α0) (c1 : P.cellsOf f1.type = Dat.sz α1) (p1 : Opens P f1.type α1) (o2 : f2.offset = Dat.sz α0 + Dat.sz α1) (c2 : P.cellsOf f2.type = Dat.sz α2) (p2 : Opens P f2.type α2) (o3 : f3.offset = Dat.sz α0 + Dat.sz α1 + Dat.sz α2) (c3 : P.cellsOf f3.type = Dat.sz α3) (p3 : Opens P f3.type α3) (o4 : f4.offset = Dat.sz α0 + Dat.sz α1 + Dat.sz α2 + Dat.sz α3) (c4 : P.cellsOf f4.type = Dat.sz α4) (p4 : Opens P f4.type α4) (hc : P.cellsOf t = Dat.sz α0 + Dat.sz α1 + Dat.sz α2 + Dat.sz α3 + Dat.sz α4) : Opens P t (α0 × α1 × α2 × α3 × α4) := fun enc w fuel cs y h => by
  obtain ⟨xs, n, _, _, hlen, hxl, hg⟩ := DataW.trod_struct ht h
  have hxl' : xs.length = 5 := hxl
  obtain ⟨x0, b0, a0⟩ := seg p0 c0 o0 (hg 0 f0 rfl) (by rw [List.getElem?_eq_getElem (by omega)]; rfl)
  obtain ⟨x1, b1, a1⟩ := seg p1 c1 o1 (hg 1 f1 rfl) (by rw [List.getElem?_eq_getElem (by omega)]; rfl)
  obtain ⟨x2, b2, a2⟩ := seg p2 c2 o2 (hg 2 f2 rfl) (by rw [List.getElem?_eq_getElem (by omega)]; rfl)
  obtain ⟨x3, b3, a3⟩ := seg p3 c3 o3 (hg 3 f3 rfl) (by rw [List.getElem?_eq_getElem (by omega)]; rfl)
  obtain ⟨x4, b4, a4⟩ := seg p4 c4 o4 (hg 4 f4 rfl) (by rw [List.getElem?_eq_getElem (by omega)]; rfl)
  rw [hc] at hlen
  have e : cs.drop 0 = (cs.drop (0)).take (Dat.sz α0) ++ ((cs.drop (Dat.sz α0)).take (Dat.sz α1) ++ ((cs.drop (Dat.sz α0 + Dat.sz α1)).take (Dat.sz α2) ++ ((cs.drop (Dat.sz α0 + Dat.sz α1 + Dat.sz α2)).take (Dat.sz α3) ++ ((cs.drop (Dat.sz α0 + Dat.sz α1 + Dat.sz α2 + Dat.sz α3)).take (Dat.sz α4))))) := by
    have s4 : cs.drop (Dat.sz α0 + Dat.sz α1 + Dat.sz α2 + Dat.sz α3) = (cs.drop (Dat.sz α0 + Dat.sz α1 + Dat.sz α2 + Dat.sz α3)).take (Dat.sz α4) := by rw [List.take_of_length_le (by rw [List.length_drop]; omega)]
    have s3 : cs.drop (Dat.sz α0 + Dat.sz α1 + Dat.sz α2) = (cs.drop (Dat.sz α0 + Dat.sz α1 + Dat.sz α2)).take (Dat.sz α3) ++ cs.drop (Dat.sz α0 + Dat.sz α1 + Dat.sz α2 + Dat.sz α3) := by
      have := (List.take_append_drop (Dat.sz α3) (cs.drop (Dat.sz α0 + Dat.sz α1 + Dat.sz α2))).symm
      rwa [List.drop_drop] at this
    have s2 : cs.drop (Dat.sz α0 + Dat.sz α1) = (cs.drop (Dat.sz α0 + Dat.sz α1)).take (Dat.sz α2) ++ cs.drop (Dat.sz α0 + Dat.sz α1 + Dat.sz α2) := by
      have := (List.take_append_drop (Dat.sz α2) (cs.drop (Dat.sz α0 + Dat.sz α1))).symm
      rwa [List.drop_drop] at this
    have s1 : cs.drop (Dat.sz α0) = (cs.drop (Dat.sz α0)).take (Dat.sz α1) ++ cs.drop (Dat.sz α0 + Dat.sz α1) := by
      have := (List.take_append_drop (Dat.sz α1) (cs.drop (Dat.sz α0))).symm
      rwa [List.drop_drop] at this
    have s0 : cs.drop (0) = (cs.drop (0)).take (Dat.sz α0) ++ cs.drop (Dat.sz α0) := by
      have := (List.take_append_drop (Dat.sz α0) (cs.drop (0))).symm
      rwa [List.drop_drop, Nat.zero_add] at this
    rw [s1, s2, s3, s4] at s0
    exact s0
  refine ⟨(x0, x1, x2, x3, x4), b0 ++ (b1 ++ (b2 ++ (b3 ++ (b4)))), ?_⟩
  rw [List.drop_zero] at e
  exact ⟨_, _, _, _, e, rfl, a0, ⟨_, _, _, _, rfl, rfl, a1, ⟨_, _, _, _, rfl, rfl, a2, ⟨_, _, _, _, rfl, rfl, a3, a4⟩⟩⟩⟩


theorem Opens.via {α β : Type} [Dat β] {f : α → β} (ho : Opens P t β) (hs : ∀ b, ∃ a, f a = b) : @Opens P t α (Dat.via f) := fun enc w fuel cs y h => by
  obtain ⟨x, bs, ha⟩ := ho enc w fuel cs y h
  obtain ⟨a, rfl⟩ := hs x
  exact ⟨a, bs, ha⟩

theorem Opens.agg {α : Type} [Dat α] (ho : Opens P t α) {fs : Array Field} (ht : P.underlying t = some (.struct fs)) {H : Type} {enc : TypeId × Value → H} {w : World} {r : Reach} {b0 : Nat} {v : Value} {d : DataW H} {p : List MemPlace}
    (hv : Value.okWide P w r b0 t v) (h : DataW.Trod enc P w 0 (fun _ => true) true t v d p) : ∃ (x : α) (bs : List Nat), Agg w v x bs := by
  obtain ⟨cs, rfl, _⟩ := okWide_struct ht hv
  obtain ⟨fuel, hf⟩ := h
  obtain ⟨x, bs, ha⟩ := ho enc w _ _ _ hf
  exact ⟨x, bs, _, by simp [Value.cells], ha⟩

theorem Opens.sl {α : Type} [Dat α] (ho : Opens P t (List α)) (ht : P.underlying t = some (.slice e)) {H : Type} {enc : TypeId × Value → H} {w : World} {r : Reach} {b0 : Nat} {v : Value} {d : DataW H} {p : List MemPlace}
    (hv : Value.okWide P w r b0 t v) (h : DataW.Trod enc P w 0 (fun _ => true) true t v d p) : ∃ (A : Option Addr) (n c : Nat) (xs : List α) (bs : List Nat), v = .slice A n c ∧ Sl w A n c xs bs := by
  obtain ⟨A, n, c, rfl⟩ := okWide_slice ht hv
  obtain ⟨fuel, hf⟩ := h
  obtain ⟨xs, bs, A', n', c', hcs, hs⟩ := ho enc w _ _ _ hf
  simp [Value.cells] at hcs
  obtain ⟨rfl, rfl, rfl⟩ := hcs
  exact ⟨_, _, _, xs, bs, rfl, hs⟩
end
end Go.XB

/- The types of the laws' arguments, opened. Written by gen_open.py. -/
namespace Go.Proofs.YthlpjpcnpcclhaaDoor.X
open Go.XB
theorem oInt : Opens Tryd.prog 3 Int := Opens.int Tryd.underlying3
theorem oBool : Opens Tryd.prog 4 Bool := Opens.bool Tryd.underlying4
theorem oLInt : Opens Tryd.prog 22 (List Int) := Opens.slice Tryd.underlying22 (by kernel_rfl) oInt
theorem oTBigInt : Opens Tryd.prog 24 TBigInt := Opens.via (Opens.struct2 Tryd.underlying24 rfl (by kernel_rfl) oBool rfl (by kernel_rfl) oLInt (by kernel_rfl)) (fun b => ⟨⟨b.1, b.2⟩, rfl⟩)
theorem oTRat : Opens Tryd.prog 26 TRat := Opens.via (Opens.struct2 Tryd.underlying26 rfl (by kernel_rfl) oTBigInt rfl (by kernel_rfl) oLInt (by kernel_rfl)) (fun b => ⟨⟨b.1, b.2⟩, rfl⟩)
theorem oTGoal : Opens Tryd.prog 28 TGoal := Opens.via (Opens.struct2 Tryd.underlying28 rfl (by kernel_rfl) oTRat rfl (by kernel_rfl) oTRat (by kernel_rfl)) (fun b => ⟨⟨b.1, b.2⟩, rfl⟩)
theorem oTReport : Opens Tryd.prog 40 TReport := Opens.via (Opens.struct3 Tryd.underlying40 rfl (by kernel_rfl) oInt rfl (by kernel_rfl) oTRat rfl (by kernel_rfl) oTRat (by kernel_rfl)) (fun b => ⟨⟨b.1, b.2.1, b.2.2⟩, rfl⟩)
end Go.Proofs.YthlpjpcnpcclhaaDoor.X
