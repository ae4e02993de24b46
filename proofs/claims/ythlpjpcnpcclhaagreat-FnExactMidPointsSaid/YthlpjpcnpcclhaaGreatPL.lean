/- What the laws use: sizes, copies, comparisons, readers. No condition. -/
import Derived.Test.YthlpjpcnpcclhaaGreatRows
import Derived.Test.YthlpjpcnpcclhaaGreatP1
import Derived.WalkLawsBesides
import Derived.ProofKit
import Derived.Test.YthlpjpcnpcclhaaGreatP2
import Derived.BigQuiet
import Derived.Deep.QuietTactic
import Derived.Deep.Slices
import Derived.KernelRfl
/- laws.toIntS: a new slice of the same ints. laws.szIntS. Condition of the first: at most 1048576 ints. -/
namespace Go.Proofs.YthlpjpcnpcclhaaGreat.X
open Go.RowKit Go.XB

theorem infoInt : (Tryz.prog.info? 3).map (fun i => (i.zero, i.size, i.bytes)) = some (some (.int .i64 0), 1, 8) := by kernel_rfl

theorem take_set_map {xs : List Int} {cells : List Value} {k : Nat} {x : Int} (hx : xs[k]? = some x) (h : cells.take k = (xs.take k).map (.int .i64)) (hl : k < cells.length) :
    (cells.set k (.int .i64 x)).take (k + 1) = (xs.take (k + 1)).map (.int .i64) := by
  rw [List.take_add_one, List.take_add_one, List.map_append, ← h, hx]
  simp [List.take_set_of_le, hl]

set_option maxHeartbeats 400000 in
theorem laws_toIntS (A : Option Addr) (n c : Nat) (xs : List Int) (bs : List Nat) (w : World) (hx : Sl w A n c xs bs) (hsz : n ≤ 1048576) :
    Calls Tryz.prog 46 #[.slice A n c] w (GivesSl w xs) := by
  have HL : Hid (xs.length = n) := hx.1
  have HX : Hid (Sl w A n c xs bs) := hx
  obtain ⟨i0, hi, hz0, hz1, hz2⟩ := info_parts infoInt
  have hlt64 : ∀ x ∈ xs, I64 x := by
    intro x hxm
    obtain ⟨k, hk⟩ := List.mem_iff_getElem?.1 hxm
    obtain ⟨_, _, y, _, _, hy, hI, _⟩ := Sl.getInt hx (k := k) (by have := (List.getElem?_eq_some_iff.1 hk).1; rw [← hx.1]; exact this)
    rw [hk] at hy; cases hy; exact hI
  have H64 : Hid (∀ x ∈ xs, I64 x) := hlt64
  clear hlt64 hx
  go_enter Tryz.func46, Tryz.ntmps46
  go_wp2_with (first | (at_make; refine wpList_make_full _ rfl _ _ 31 rfl w.heap.size 3 i0 (.int .i64 0) 1 Tryz.underlying31 hi hz0 hz1 .i64 .i64 _ _ n rfl rfl rfl rfl (by rw [hz2]; omega) (by unfold maxLen; omega) (Nat.le_refl _) ?_; intro w1 hown hgrow))
  go_loopw [4] (fun i wr => ∃ (k : Nat) (cells : List Value), k ≤ n ∧ i = .int .i64 k ∧ wr.ownsRow w.heap.size 3 1 (.slice (some ⟨w.heap.size, 0, none⟩) n n) n cells ∧ Hid (cells.take k = (xs.take k).map (.int .i64)) ∧ Below w.heap.size w wr) (fun i _ => n - (intOf i).toNat)
  case atStart => exact ⟨0, _, Nat.zero_le _, rfl, hown, rfl, (Below.refl _ _).grown hgrow (Nat.le_refl _) (by simp)⟩
  case round =>
    obtain ⟨k, cells, hk, rfl, hown, ht, hb⟩ := hrel
    clear hgrow
    by_cases hlt : k < n
    · obtain ⟨b, off, x, rfl, hbl, hxk, _, hcx⟩ := Sl.getInt (HX.out.below hb) hlt
      have HXk : Hid (xs[k]? = some x) := hxk
      have hcl : k < cells.length := by rw [hown.1]; omega
      have hg1 := World.ownsRow.cellAt hown k (by omega)
      have hg2 := World.ownsRow.frozenAt hown k
      have hst := World.ownsRow.stored hown k (.int .i64 x)
      rw [List.getElem?_eq_getElem hcl] at hg1
      have HOwn := hid hown
      have HSt := hid hst
      clear hxk hown hst
      go_wp2
      go_roundw
      case rel => exact ⟨k + 1, _, by omega, by go_num, HSt.out.1, take_set_map HXk.out ht.out hcl, hb.setCell (Nat.le_refl _) _⟩
      case measure => simp [intOf]; omega
    · obtain rfl : k = n := by omega
      go_wp2
      go_ret
      have ht' := ht.out
      rw [List.take_of_length_le (Nat.le_of_eq HL.out)] at ht'
      obtain ⟨A', c', bs', hv, hs, ho⟩ := (Filled.ints (w := _) (cells := cells) (xs := xs) (by rw [HL.out]; exact ht') H64.out (by rw [hown.1, HL.out]; omega)).sl hown HL.out
      refine ⟨A', k, c', bs', by rw [← hv]; rfl, hs, own_of_row (n := k) (fss := List.replicate xs.length []) ?_ (by rw [flatten_nils]; exact Own.nil _ _), hb⟩
      rcases ho with ho | ⟨g, h1, h2, h3, h4⟩
      · exact .inl ho
      · exact .inr ⟨g, h2, h3, h4, by rw [flatten_nils]; simp⟩

end Go.Proofs.YthlpjpcnpcclhaaGreat.X

/- Two lists of ints, compared: laws.eqIntS, spec.l04List, slices.Equal at ints. -/
namespace Go.Proofs.YthlpjpcnpcclhaaGreat.X
open Go.RowKit Go.XB
set_option maxHeartbeats 400000 in
theorem laws_eqIntS (A A' : Option Addr) (n n' c c' : Nat) (xs ys : List Int) (bs bs' : List Nat) (w : World) (hx : Sl w A n c xs bs) (hy : Sl w A' n' c' ys bs') :
    Calls Tryz.prog 18 #[.slice A n c, .slice A' n' c'] w (Gives w (.bool (decide (xs = ys)))) := by
  have hn : n ≤ maxLen := Nat.le_trans hx.2.1 hx.2.2.1
  have hn' : n' ≤ maxLen := Nat.le_trans hy.2.1 hy.2.2.1
  have HL : Hid (xs.length = n) := hx.1
  have HL' : Hid (ys.length = n') := hy.1
  unfold maxLen at hn hn'
  have HX : Hid (Sl w A n c xs bs) := hx
  have HY : Hid (Sl w A' n' c' ys bs') := hy
  clear hx hy
  by_cases hne : n = n'
  · subst hne
    go_enter Tryz.func18, Tryz.ntmps18
    go_wp2
    go_loopw [5] (fun i wr => ∃ k : Nat, k ≤ n ∧ i = .int .i64 k ∧ Hid (xs.take k = ys.take k) ∧ ∃ m, wr = w.drewN m) (fun i wr => n - (intOf i).toNat)
    case atStart => exact ⟨0, Nat.zero_le _, rfl, rfl, 0, rfl⟩
    case round =>
      obtain ⟨k, hk, rfl, ht, m, rfl⟩ := hrel
      by_cases hlt : k < n
      · obtain ⟨b, off, x, rfl, hbl, hxk, _, hcx⟩ := Sl.getInt HX.out hlt
        obtain ⟨b', off', y, rfl, hbl', hyk, _, hcy⟩ := Sl.getInt HY.out hlt
        have HXk : Hid (xs[k]? = some x) := hxk
        have HYk : Hid (ys[k]? = some y) := hyk
        clear hxk hyk
        have hi1 : (0 : Int) ≤ k := by omega
        have hi2 : (k : Int) < n := by omega
        by_cases hxy : x = y
        · have hb : (x != y) = false := by simp [hxy]
          go_wp2
          go_quiet (fail)
          go_wp2
          go_roundw
          case rel => exact ⟨k + 1, by omega, by go_num, take_eq_step HXk.out HYk.out ht hxy, _, rfl⟩
          case measure => simp [intOf]; omega
        · have hb : (x != y) = true := by simp [hxy]
          go_wp2
          go_quiet (fail)
          go_wp2
          go_ret
          exact ⟨ret_bool (by simp [ne_at HXk.out HYk.out hxy]), ⟨rfl, rfl, rfl, Nat.le_refl _, fun _ _ => rfl⟩⟩
      · go_wp2
        go_ret
        exact ⟨ret_bool (by simp [take_all_eq HL.out HL'.out (by omega) ht.out]), ⟨rfl, rfl, rfl, Nat.le_refl _, fun _ _ => rfl⟩⟩
  · have hb : ((n : Int) != n') = true := by simp; omega
    go_enter Tryz.func18, Tryz.ntmps18
    go_wp2
    go_ret
    exact ⟨ret_bool (by
      have : xs ≠ ys := fun e => hne (by rw [← HL.out, ← HL'.out, e])
      simp [this]), Below.refl _ _⟩
end Go.Proofs.YthlpjpcnpcclhaaGreat.X

/- The budget of the laws' arguments: laws.sz... Written by gen_law.py. -/
namespace Go.Proofs.YthlpjpcnpcclhaaGreat.X
open Go.RowKit Go.XB
attribute [local go_sem] fillBy opAt deps depOf Region.wanted yielded
attribute [local simp] deps depOf MP.eq Facts
set_option maxHeartbeats 400000 in
theorem laws_szBigInt (v : Value) (x : TBigInt) (bs : List Nat) (left : Int) (w : World) (hx : Agg w v x bs) (h0 : 0 ≤ left) (h1 : left ≤ 1048576) :
    Calls Tryz.prog 34 #[v, .int .i64 left] w (Gives w (.int .i64 (minus left x.cnt))) := by
  obtain ⟨A1, nA1, cA1, sA1, rfl, rfl, w1⟩ := TBigInt.agg hx
  have W1 := hid w1
  clear hx w1
  unfold TBigInt.cnt
  have h0a := h0; have h0b := h1
  rcases minus_cases left (x.mag.length) with ⟨k0, e0, l0⟩ | ⟨k0, e0, l0⟩
  · have E0 := hid e0
    have L0 := hid l0
    clear e0 l0
    go_enter Tryz.func34, Tryz.ntmps34
    go_wp2_with fail
    refine (laws_szIntS _ _ _ x.mag _ left _ (Sl.below W1.out (by (repeat (first | (with_reducible exact Below.refl _ _) | ((with_reducible refine Below.set ?_ ?_ _); rotate_left; (simp <;> omega)) | (with_reducible refine Below.box_ ?_ _) | (with_reducible refine Below.next ?_ (by assumption)))))) h0a h0b).mono ?_
    rintro e u0 ⟨rfl, hb0⟩
    obtain ⟨hc0, hf0⟩ := bcell hb0
    have hz0 : w.heap.size < u0.heap.size := by have := hb0.size; (try simp at this); omega
    go_wp2
    go_ret
    exact ⟨by have := L0.out; rw [minus_neg (show left < (((x.mag.length) : Nat) : Int) by omega)]; rfl, by (repeat (first | (with_reducible exact Below.refl _ _) | ((with_reducible refine Below.set ?_ ?_ _); rotate_left; (simp <;> omega)) | (with_reducible refine Below.box_ ?_ _) | (with_reducible refine Below.next ?_ (by assumption))))⟩
  · have E0 := hid e0
    have L0 := hid l0
    have h1a : 0 ≤ minus left (x.mag.length) := k0
    have h1b : minus left (x.mag.length) ≤ 1048576 := by omega
    clear e0 l0
    go_enter Tryz.func34, Tryz.ntmps34
    go_wp2_with fail
    refine (laws_szIntS _ _ _ x.mag _ left _ (Sl.below W1.out (by (repeat (first | (with_reducible exact Below.refl _ _) | ((with_reducible refine Below.set ?_ ?_ _); rotate_left; (simp <;> omega)) | (with_reducible refine Below.box_ ?_ _) | (with_reducible refine Below.next ?_ (by assumption)))))) h0a h0b).mono ?_
    rintro e u0 ⟨rfl, hb0⟩
    obtain ⟨hc0, hf0⟩ := bcell hb0
    have hz0 : w.heap.size < u0.heap.size := by have := hb0.size; (try simp at this); omega
    go_wp2
    go_ret
    have L0' := L0.out; have E0' := E0.out
    have hm := minus_pos (left := left) (n := (x.mag.length)) (by omega)
    exact ⟨ret_int (by omega), by (repeat (first | (with_reducible exact Below.refl _ _) | ((with_reducible refine Below.set ?_ ?_ _); rotate_left; (simp <;> omega)) | (with_reducible refine Below.box_ ?_ _) | (with_reducible refine Below.next ?_ (by assumption))))⟩
set_option maxHeartbeats 400000 in
theorem laws_szRat (v : Value) (x : TRat) (bs : List Nat) (left : Int) (w : World) (hx : Agg w v x bs) (h0 : 0 ≤ left) (h1 : left ≤ 1048576) :
    Calls Tryz.prog 13 #[v, .int .i64 left] w (Gives w (.int .i64 (minus left x.cnt))) := by
  obtain ⟨A1, nA1, cA1, sA1, A2, nA2, cA2, sA2, rfl, rfl, w1, w2⟩ := TRat.agg hx
  have W1 := hid w1
  have W2 := hid w2
  clear hx w1 w2
  unfold TRat.cnt
  have h0a := h0; have h0b := h1
  rcases minus_cases left (x.num.cnt) with ⟨k0, e0, l0⟩ | ⟨k0, e0, l0⟩
  · have E0 := hid e0
    have L0 := hid l0
    clear e0 l0
    go_enter Tryz.func13, Tryz.ntmps13
    go_wp2_with fail
    refine (laws_szBigInt _ x.num _ left _ (TBigInt.mkAgg (Sl.below W1.out (by (repeat (first | (with_reducible exact Below.refl _ _) | ((with_reducible refine Below.set ?_ ?_ _); rotate_left; (simp <;> omega)) | (with_reducible refine Below.box_ ?_ _) | (with_reducible refine Below.next ?_ (by assumption))))))) h0a h0b).mono ?_
    rintro e u0 ⟨rfl, hb0⟩
    obtain ⟨hc0, hf0⟩ := bcell hb0
    have hz0 : w.heap.size < u0.heap.size := by have := hb0.size; (try simp at this); omega
    go_wp2
    go_ret
    exact ⟨by have := L0.out; rw [minus_neg (show left < (((x.num.cnt) + (x.den.length) : Nat) : Int) by omega)]; rfl, by (repeat (first | (with_reducible exact Below.refl _ _) | ((with_reducible refine Below.set ?_ ?_ _); rotate_left; (simp <;> omega)) | (with_reducible refine Below.box_ ?_ _) | (with_reducible refine Below.next ?_ (by assumption))))⟩
  · have E0 := hid e0
    have L0 := hid l0
    have h1a : 0 ≤ minus left (x.num.cnt) := k0
    have h1b : minus left (x.num.cnt) ≤ 1048576 := by omega
    clear e0 l0
    rcases minus_cases (minus left (x.num.cnt)) (x.den.length) with ⟨k1, e1, l1⟩ | ⟨k1, e1, l1⟩
    · have E1 := hid e1
      have L1 := hid l1
      clear e1 l1
      go_enter Tryz.func13, Tryz.ntmps13
      go_wp2_with fail
      refine (laws_szBigInt _ x.num _ left _ (TBigInt.mkAgg (Sl.below W1.out (by (repeat (first | (with_reducible exact Below.refl _ _) | ((with_reducible refine Below.set ?_ ?_ _); rotate_left; (simp <;> omega)) | (with_reducible refine Below.box_ ?_ _) | (with_reducible refine Below.next ?_ (by assumption))))))) h0a h0b).mono ?_
      rintro e u0 ⟨rfl, hb0⟩
      obtain ⟨hc0, hf0⟩ := bcell hb0
      have hz0 : w.heap.size < u0.heap.size := by have := hb0.size; (try simp at this); omega
      go_wp2_with fail
      refine (laws_szIntS _ _ _ x.den _ (minus left (x.num.cnt)) _ (Sl.below W2.out (by (repeat (first | (with_reducible exact Below.refl _ _) | ((with_reducible refine Below.set ?_ ?_ _); rotate_left; (simp <;> omega)) | (with_reducible refine Below.box_ ?_ _) | (with_reducible refine Below.next ?_ (by assumption)))))) h1a h1b).mono ?_
      rintro e u1 ⟨rfl, hb1⟩
      obtain ⟨hc1, hf1⟩ := bcell hb1
      have hz1 : w.heap.size < u1.heap.size := by have := hb1.size; (try simp at this); omega
      go_wp2
      go_ret
      exact ⟨by have := L1.out; have := E0.out; rw [minus_neg (show left < (((x.num.cnt) + (x.den.length) : Nat) : Int) by omega)]; rfl, by (repeat (first | (with_reducible exact Below.refl _ _) | ((with_reducible refine Below.set ?_ ?_ _); rotate_left; (simp <;> omega)) | (with_reducible refine Below.box_ ?_ _) | (with_reducible refine Below.next ?_ (by assumption))))⟩
    · have E1 := hid e1
      have L1 := hid l1
      have h2a : 0 ≤ minus (minus left (x.num.cnt)) (x.den.length) := k1
      have h2b : minus (minus left (x.num.cnt)) (x.den.length) ≤ 1048576 := by omega
      clear e1 l1
      go_enter Tryz.func13, Tryz.ntmps13
      go_wp2_with fail
      refine (laws_szBigInt _ x.num _ left _ (TBigInt.mkAgg (Sl.below W1.out (by (repeat (first | (with_reducible exact Below.refl _ _) | ((with_reducible refine Below.set ?_ ?_ _); rotate_left; (simp <;> omega)) | (with_reducible refine Below.box_ ?_ _) | (with_reducible refine Below.next ?_ (by assumption))))))) h0a h0b).mono ?_
      rintro e u0 ⟨rfl, hb0⟩
      obtain ⟨hc0, hf0⟩ := bcell hb0
      have hz0 : w.heap.size < u0.heap.size := by have := hb0.size; (try simp at this); omega
      go_wp2_with fail
      refine (laws_szIntS _ _ _ x.den _ (minus left (x.num.cnt)) _ (Sl.below W2.out (by (repeat (first | (with_reducible exact Below.refl _ _) | ((with_reducible refine Below.set ?_ ?_ _); rotate_left; (simp <;> omega)) | (with_reducible refine Below.box_ ?_ _) | (with_reducible refine Below.next ?_ (by assumption)))))) h1a h1b).mono ?_
      rintro e u1 ⟨rfl, hb1⟩
      obtain ⟨hc1, hf1⟩ := bcell hb1
      have hz1 : w.heap.size < u1.heap.size := by have := hb1.size; (try simp at this); omega
      go_wp2
      go_ret
      have L0' := L0.out; have E0' := E0.out
      have L1' := L1.out; have E1' := E1.out
      have hm := minus_pos (left := left) (n := (x.num.cnt) + (x.den.length)) (by omega)
      exact ⟨ret_int (by omega), by (repeat (first | (with_reducible exact Below.refl _ _) | ((with_reducible refine Below.set ?_ ?_ _); rotate_left; (simp <;> omega)) | (with_reducible refine Below.box_ ?_ _) | (with_reducible refine Below.next ?_ (by assumption))))⟩
set_option maxHeartbeats 400000 in
theorem laws_szRatS (A : Option Addr) (n c : Nat) (xs : List TRat) (bs : List Nat) (left : Int) (w : World) (hx : Sl w A n c xs bs) (h0 : 0 ≤ left) (h1 : left ≤ 1048576) :
    Calls Tryz.prog 12 #[.slice A n c, .int .i64 left] w (Gives w (.int .i64 (minus left (cntL TRat.cnt xs)))) := by
  have hn : n ≤ maxLen := Nat.le_trans hx.2.1 hx.2.2.1
  unfold maxLen at hn
  have HL := hid hx.1
  have HX := hid hx
  clear hx
  unfold cntL
  by_cases h : left - n < 0
  · go_enter Tryz.func12, Tryz.ntmps12
    go_wp2
    go_ret
    exact ⟨ret_int (by have := HL.out; rw [minus_neg (by omega)]), Below.refl _ _⟩
  · go_enter Tryz.func12, Tryz.ntmps12
    go_wp2
    go_loopw [1, 5] (fun l i wr => ∃ (k : Nat) (r : Int), k ≤ n ∧ i = .int .i64 k ∧ l = .int .i64 r ∧ 0 ≤ r ∧ r ≤ 1048576 ∧ Hid (r = left - n - (((xs.take k).map TRat.cnt).sum : Nat)) ∧ Below w.heap.size w wr) (fun l i wr => n - (intOf i).toNat)
    case atStart => exact ⟨0, _, Nat.zero_le _, rfl, rfl, by omega, by omega, (show _ = _ by simp), Below.refl _ _⟩
    case round =>
      obtain ⟨k, r, hk, rfl, rfl, hr0, hr1, hr, hb⟩ := hrel
      by_cases hlt : k < n
      · obtain ⟨be, offe, x, A1, nA1, cA1, sA1, A2, nA2, cA2, sA2, rfl, hble, hxke, ee0, ee1, ee2, e1, e2, hmeme⟩ := TRat.elem (Sl.below HX.out hb) hlt
        have HXk := hid hxke
        have W1 := hid e1
        have W2 := hid e2
        clear hxke e1 e2 hmeme
        rcases minus_cases r x.cnt with ⟨k1, e1, l1⟩ | ⟨k1, e1, l1⟩
        · have E1 := hid e1; have L1 := hid l1
          clear e1 l1
          go_wp2_with fail
          refine (laws_szRat _ x _ r _ (TRat.mkAgg W1.out W2.out) hr0 hr1).mono ?_
          rintro e u ⟨rfl, hbu⟩
          go_wp2
          go_ret
          refine ⟨ret_int ?_, Below.next hb hbu⟩
          rw [minus_neg]
          have hs := sum_take_le TRat.cnt HXk.out
          have := hr.out; have := L1.out; have := HL.out
          omega
        · have E1 := hid e1; have L1 := hid l1
          clear e1 l1
          have hle : minus r x.cnt ≤ 1048576 := by have := E1.out; omega
          go_wp2_with fail
          refine (laws_szRat _ x _ r _ (TRat.mkAgg W1.out W2.out) hr0 hr1).mono ?_
          rintro e u ⟨rfl, hbu⟩
          go_wp2
          go_roundw
          case rel => exact ⟨k + 1, _, by omega, by go_num, rfl, k1, hle, (show _ = _ by have hs := sum_take_step TRat.cnt HXk.out; have := hr.out; have := E1.out; omega), Below.next hb hbu⟩
          case measure => simp [intOf]; omega
      · obtain rfl : k = n := by omega
        go_wp2
        go_ret
        refine ⟨ret_int ?_, hb⟩
        have hr' := hr.out
        rw [List.take_of_length_le (Nat.le_of_eq HL.out)] at hr'
        rw [minus_pos (by have := HL.out; omega), hr']
        have := HL.out; omega
set_option maxHeartbeats 400000 in
theorem laws_szPoint (v : Value) (x : TPoint) (bs : List Nat) (left : Int) (w : World) (hx : Agg w v x bs) (h0 : 0 ≤ left) (h1 : left ≤ 1048576) :
    Calls Tryz.prog 25 #[v, .int .i64 left] w (Gives w (.int .i64 (minus left x.cnt))) := by
  obtain ⟨A1, nA1, cA1, sA1, A2, nA2, cA2, sA2, A4, nA4, cA4, sA4, A5, nA5, cA5, sA5, rfl, rfl, w1, w2, w4, w5⟩ := TPoint.agg hx
  have W1 := hid w1
  have W2 := hid w2
  have W4 := hid w4
  have W5 := hid w5
  clear hx w1 w2 w4 w5
  unfold TPoint.cnt
  have h0a := h0; have h0b := h1
  rcases minus_cases left (x.x.cnt) with ⟨k0, e0, l0⟩ | ⟨k0, e0, l0⟩
  · have E0 := hid e0
    have L0 := hid l0
    clear e0 l0
    go_enter Tryz.func25, Tryz.ntmps25
    go_wp2_with fail
    refine (laws_szRat _ x.x _ left _ (TRat.mkAgg (Sl.below W1.out (by (repeat (first | (with_reducible exact Below.refl _ _) | ((with_reducible refine Below.set ?_ ?_ _); rotate_left; (simp <;> omega)) | (with_reducible refine Below.box_ ?_ _) | (with_reducible refine Below.next ?_ (by assumption)))))) (Sl.below W2.out (by (repeat (first | (with_reducible exact Below.refl _ _) | ((with_reducible refine Below.set ?_ ?_ _); rotate_left; (simp <;> omega)) | (with_reducible refine Below.box_ ?_ _) | (with_reducible refine Below.next ?_ (by assumption))))))) h0a h0b).mono ?_
    rintro e u0 ⟨rfl, hb0⟩
    obtain ⟨hc0, hf0⟩ := bcell hb0
    have hz0 : w.heap.size < u0.heap.size := by have := hb0.size; (try simp at this); omega
    go_wp2
    go_ret
    exact ⟨by have := L0.out; rw [minus_neg (show left < (((x.x.cnt) + (x.y.cnt) : Nat) : Int) by omega)]; rfl, by (repeat (first | (with_reducible exact Below.refl _ _) | ((with_reducible refine Below.set ?_ ?_ _); rotate_left; (simp <;> omega)) | (with_reducible refine Below.box_ ?_ _) | (with_reducible refine Below.next ?_ (by assumption))))⟩
  · have E0 := hid e0
    have L0 := hid l0
    have h1a : 0 ≤ minus left (x.x.cnt) := k0
    have h1b : minus left (x.x.cnt) ≤ 1048576 := by omega
    clear e0 l0
    rcases minus_cases (minus left (x.x.cnt)) (x.y.cnt) with ⟨k1, e1, l1⟩ | ⟨k1, e1, l1⟩
    · have E1 := hid e1
      have L1 := hid l1
      clear e1 l1
      go_enter Tryz.func25, Tryz.ntmps25
      go_wp2_with fail
      refine (laws_szRat _ x.x _ left _ (TRat.mkAgg (Sl.below W1.out (by (repeat (first | (with_reducible exact Below.refl _ _) | ((with_reducible refine Below.set ?_ ?_ _); rotate_left; (simp <;> omega)) | (with_reducible refine Below.box_ ?_ _) | (with_reducible refine Below.next ?_ (by assumption)))))) (Sl.below W2.out (by (repeat (first | (with_reducible exact Below.refl _ _) | ((with_reducible refine Below.set ?_ ?_ _); rotate_left; (simp <;> omega)) | (with_reducible refine Below.box_ ?_ _) | (with_reducible refine Below.next ?_ (by assumption))))))) h0a h0b).mono ?_
      rintro e u0 ⟨rfl, hb0⟩
      obtain ⟨hc0, hf0⟩ := bcell hb0
      have hz0 : w.heap.size < u0.heap.size := by have := hb0.size; (try simp at this); omega
      go_wp2_with fail
      refine (laws_szRat _ x.y _ (minus left (x.x.cnt)) _ (TRat.mkAgg (Sl.below W4.out (by (repeat (first | (with_reducible exact Below.refl _ _) | ((with_reducible refine Below.set ?_ ?_ _); rotate_left; (simp <;> omega)) | (with_reducible refine Below.box_ ?_ _) | (with_reducible refine Below.next ?_ (by assumption)))))) (Sl.below W5.out (by (repeat (first | (with_reducible exact Below.refl _ _) | ((with_reducible refine Below.set ?_ ?_ _); rotate_left; (simp <;> omega)) | (with_reducible refine Below.box_ ?_ _) | (with_reducible refine Below.next ?_ (by assumption))))))) h1a h1b).mono ?_
      rintro e u1 ⟨rfl, hb1⟩
      obtain ⟨hc1, hf1⟩ := bcell hb1
      have hz1 : w.heap.size < u1.heap.size := by have := hb1.size; (try simp at this); omega
      go_wp2
      go_ret
      exact ⟨by have := L1.out; have := E0.out; rw [minus_neg (show left < (((x.x.cnt) + (x.y.cnt) : Nat) : Int) by omega)]; rfl, by (repeat (first | (with_reducible exact Below.refl _ _) | ((with_reducible refine Below.set ?_ ?_ _); rotate_left; (simp <;> omega)) | (with_reducible refine Below.box_ ?_ _) | (with_reducible refine Below.next ?_ (by assumption))))⟩
    · have E1 := hid e1
      have L1 := hid l1
      have h2a : 0 ≤ minus (minus left (x.x.cnt)) (x.y.cnt) := k1
      have h2b : minus (minus left (x.x.cnt)) (x.y.cnt) ≤ 1048576 := by omega
      clear e1 l1
      go_enter Tryz.func25, Tryz.ntmps25
      go_wp2_with fail
      refine (laws_szRat _ x.x _ left _ (TRat.mkAgg (Sl.below W1.out (by (repeat (first | (with_reducible exact Below.refl _ _) | ((with_reducible refine Below.set ?_ ?_ _); rotate_left; (simp <;> omega)) | (with_reducible refine Below.box_ ?_ _) | (with_reducible refine Below.next ?_ (by assumption)))))) (Sl.below W2.out (by (repeat (first | (with_reducible exact Below.refl _ _) | ((with_reducible refine Below.set ?_ ?_ _); rotate_left; (simp <;> omega)) | (with_reducible refine Below.box_ ?_ _) | (with_reducible refine Below.next ?_ (by assumption))))))) h0a h0b).mono ?_
      rintro e u0 ⟨rfl, hb0⟩
      obtain ⟨hc0, hf0⟩ := bcell hb0
      have hz0 : w.heap.size < u0.heap.size := by have := hb0.size; (try simp at this); omega
      go_wp2_with fail
      refine (laws_szRat _ x.y _ (minus left (x.x.cnt)) _ (TRat.mkAgg (Sl.below W4.out (by (repeat (first | (with_reducible exact Below.refl _ _) | ((with_reducible refine Below.set ?_ ?_ _); rotate_left; (simp <;> omega)) | (with_reducible refine Below.box_ ?_ _) | (with_reducible refine Below.next ?_ (by assumption)))))) (Sl.below W5.out (by (repeat (first | (with_reducible exact Below.refl _ _) | ((with_reducible refine Below.set ?_ ?_ _); rotate_left; (simp <;> omega)) | (with_reducible refine Below.box_ ?_ _) | (with_reducible refine Below.next ?_ (by assumption))))))) h1a h1b).mono ?_
      rintro e u1 ⟨rfl, hb1⟩
      obtain ⟨hc1, hf1⟩ := bcell hb1
      have hz1 : w.heap.size < u1.heap.size := by have := hb1.size; (try simp at this); omega
      go_wp2
      go_ret
      have L0' := L0.out; have E0' := E0.out
      have L1' := L1.out; have E1' := E1.out
      have hm := minus_pos (left := left) (n := (x.x.cnt) + (x.y.cnt)) (by omega)
      exact ⟨ret_int (by omega), by (repeat (first | (with_reducible exact Below.refl _ _) | ((with_reducible refine Below.set ?_ ?_ _); rotate_left; (simp <;> omega)) | (with_reducible refine Below.box_ ?_ _) | (with_reducible refine Below.next ?_ (by assumption))))⟩
set_option maxHeartbeats 400000 in
theorem laws_szPointS (A : Option Addr) (n c : Nat) (xs : List TPoint) (bs : List Nat) (left : Int) (w : World) (hx : Sl w A n c xs bs) (h0 : 0 ≤ left) (h1 : left ≤ 1048576) :
    Calls Tryz.prog 5 #[.slice A n c, .int .i64 left] w (Gives w (.int .i64 (minus left (cntL TPoint.cnt xs)))) := by
  have hn : n ≤ maxLen := Nat.le_trans hx.2.1 hx.2.2.1
  unfold maxLen at hn
  have HL := hid hx.1
  have HX := hid hx
  clear hx
  unfold cntL
  by_cases h : left - n < 0
  · go_enter Tryz.func5, Tryz.ntmps5
    go_wp2
    go_ret
    exact ⟨ret_int (by have := HL.out; rw [minus_neg (by omega)]), Below.refl _ _⟩
  · go_enter Tryz.func5, Tryz.ntmps5
    go_wp2
    go_loopw [1, 5] (fun l i wr => ∃ (k : Nat) (r : Int), k ≤ n ∧ i = .int .i64 k ∧ l = .int .i64 r ∧ 0 ≤ r ∧ r ≤ 1048576 ∧ Hid (r = left - n - (((xs.take k).map TPoint.cnt).sum : Nat)) ∧ Below w.heap.size w wr) (fun l i wr => n - (intOf i).toNat)
    case atStart => exact ⟨0, _, Nat.zero_le _, rfl, rfl, by omega, by omega, (show _ = _ by simp), Below.refl _ _⟩
    case round =>
      obtain ⟨k, r, hk, rfl, rfl, hr0, hr1, hr, hb⟩ := hrel
      by_cases hlt : k < n
      · obtain ⟨be, offe, x, A1, nA1, cA1, sA1, A2, nA2, cA2, sA2, A4, nA4, cA4, sA4, A5, nA5, cA5, sA5, rfl, hble, hxke, ee0, ee1, ee2, ee3, ee4, ee5, e1, e2, e4, e5, hmeme⟩ := TPoint.elem (Sl.below HX.out hb) hlt
        have HXk := hid hxke
        have W1 := hid e1
        have W2 := hid e2
        have W4 := hid e4
        have W5 := hid e5
        clear hxke e1 e2 e4 e5 hmeme
        rcases minus_cases r x.cnt with ⟨k1, e1, l1⟩ | ⟨k1, e1, l1⟩
        · have E1 := hid e1; have L1 := hid l1
          clear e1 l1
          go_wp2_with fail
          refine (laws_szPoint _ x _ r _ (TPoint.mkAgg W1.out W2.out W4.out W5.out) hr0 hr1).mono ?_
          rintro e u ⟨rfl, hbu⟩
          go_wp2
          go_ret
          refine ⟨ret_int ?_, Below.next hb hbu⟩
          rw [minus_neg]
          have hs := sum_take_le TPoint.cnt HXk.out
          have := hr.out; have := L1.out; have := HL.out
          omega
        · have E1 := hid e1; have L1 := hid l1
          clear e1 l1
          have hle : minus r x.cnt ≤ 1048576 := by have := E1.out; omega
          go_wp2_with fail
          refine (laws_szPoint _ x _ r _ (TPoint.mkAgg W1.out W2.out W4.out W5.out) hr0 hr1).mono ?_
          rintro e u ⟨rfl, hbu⟩
          go_wp2
          go_roundw
          case rel => exact ⟨k + 1, _, by omega, by go_num, rfl, k1, hle, (show _ = _ by have hs := sum_take_step TPoint.cnt HXk.out; have := hr.out; have := E1.out; omega), Below.next hb hbu⟩
          case measure => simp [intOf]; omega
      · obtain rfl : k = n := by omega
        go_wp2
        go_ret
        refine ⟨ret_int ?_, hb⟩
        have hr' := hr.out
        rw [List.take_of_length_le (Nat.le_of_eq HL.out)] at hr'
        rw [minus_pos (by have := HL.out; omega), hr']
        have := HL.out; omega
end Go.Proofs.YthlpjpcnpcclhaaGreat.X

/- The laws' copies of their arguments: laws.to... Written by gen_law.py. -/
namespace Go.Proofs.YthlpjpcnpcclhaaGreat.X
open Go.RowKit Go.XB
attribute [local go_sem] fillBy opAt deps depOf Region.wanted yielded
attribute [local simp] deps depOf MP.eq Facts
set_option maxHeartbeats 1000000 in
theorem laws_toBigInt (v : Value) (x : TBigInt) (bs : List Nat) (w : World) (hx : Agg w v x bs) (hsz : x.cnt ≤ 1048576) : Calls Tryz.prog 45 #[v] w (GivesAgg w x) := by
  obtain ⟨A1, nA1, cA1, sA1, rfl, rfl, w1⟩ := TBigInt.agg hx
  have W1 := hid w1
  clear hx w1
  unfold TBigInt.cnt at hsz
  go_enter Tryz.func45, Tryz.ntmps45
  go_wp2_with fail
  refine (laws_toIntS _ _ _ x.mag _ _ (Sl.below W1.out (by (repeat (first | (with_reducible exact Below.refl _ _) | ((with_reducible refine Below.set ?_ ?_ _); rotate_left; (simp <;> omega)) | (with_reducible refine Below.box_ ?_ _) | (with_reducible refine Below.next ?_ (by assumption)))))) (by have := W1.out.1; omega)).mono ?_
  rintro e u0 ⟨B0, m0, d0, t0, rfl, hs0, ho0, hb0⟩
  have HS0 := hid (show Dat.at_ u0 [.slice B0 m0 d0] x.mag t0 from ⟨_, _, _, rfl, hs0⟩)
  have HO0 := hid ho0
  clear hs0 ho0
  obtain ⟨hc0, hf0⟩ := bcell hb0
  have hz0 : w.heap.size < u0.heap.size ∧ w.heap.size + 1 < u0.heap.size ∧ w.heap.size + 1 + 1 < u0.heap.size := by have := hb0.size; (try simp at this); omega
  obtain ⟨hz0a, hz0b, hz0c⟩ := hz0
  go_wp2
  refine bodyPost_ret (v := .agg #[.bool x.neg, .slice B0 m0 d0]) (by simp [results, Tryz.results45, go_sem, *]) rfl ?_
  have a0 : ∀ W : World, Above (w.heap.size + 3) u0 W → Dat.at_ W [.slice B0 m0 d0] x.mag _ ∧ Own w W _ := fun W ha =>
    ⟨At.above HS0.out HO0.out ha (by simp <;> omega), (HO0.out.above ha (by simp <;> omega)).older (by simp <;> omega)⟩
  refine ⟨_, _, rfl, ⟨_, rfl, ⟨_, _, _, _, rfl, rfl, ⟨rfl, rfl⟩, (a0 _ (by (repeat (first | (with_reducible exact Above.refl _ _) | ((with_reducible refine Above.set ?_ ?_ _); rotate_left; (simp <;> omega)) | (with_reducible refine Above.box ?_ _) | (with_reducible refine Above.below ?_ (by assumption)))))).1⟩⟩, ?_, ?_⟩
  · have hsz' : True := trivial
    have q0 := hb0.size; (try simp at q0)
    refine Own.append (Own.nil _ _) ?_ ?_
    rotate_left
    · intro b hb; simp at hb
    exact (a0 _ (by (repeat (first | (with_reducible exact Above.refl _ _) | ((with_reducible refine Above.set ?_ ?_ _); rotate_left; (simp <;> omega)) | (with_reducible refine Above.box ?_ _) | (with_reducible refine Above.below ?_ (by assumption)))))).2
  · (repeat (first | (with_reducible exact Below.refl _ _) | ((with_reducible refine Below.set ?_ ?_ _); rotate_left; (simp <;> omega)) | (with_reducible refine Below.box_ ?_ _) | (with_reducible refine Below.next ?_ (by assumption))))
set_option maxHeartbeats 1000000 in
theorem laws_toRat (v : Value) (x : TRat) (bs : List Nat) (w : World) (hx : Agg w v x bs) (hsz : x.cnt ≤ 1048576) : Calls Tryz.prog 16 #[v] w (GivesAgg w x) := by
  obtain ⟨A1, nA1, cA1, sA1, A2, nA2, cA2, sA2, rfl, rfl, w1, w2⟩ := TRat.agg hx
  have W1 := hid w1
  have W2 := hid w2
  clear hx w1 w2
  unfold TRat.cnt at hsz
  go_enter Tryz.func16, Tryz.ntmps16
  go_wp2_with fail
  refine (laws_toBigInt _ x.num _ _ (TBigInt.mkAgg (Sl.below W1.out (by (repeat (first | (with_reducible exact Below.refl _ _) | ((with_reducible refine Below.set ?_ ?_ _); rotate_left; (simp <;> omega)) | (with_reducible refine Below.box_ ?_ _) | (with_reducible refine Below.next ?_ (by assumption))))))) (by omega)).mono ?_
  rintro e u0 ⟨r0, t0, rfl, hs0, ho0, hb0⟩
  obtain ⟨B01, nB01, cB01, sB01, rfl, rfl, y1⟩ := TBigInt.agg hs0
  have HS0 := hid (TBigInt.shut y1)
  have HO0 := hid ho0
  clear hs0 ho0 y1
  obtain ⟨hc0, hf0⟩ := bcell hb0
  have hz0 : w.heap.size < u0.heap.size ∧ w.heap.size + 1 < u0.heap.size ∧ w.heap.size + 1 + 1 < u0.heap.size := by have := hb0.size; (try simp at this); omega
  obtain ⟨hz0a, hz0b, hz0c⟩ := hz0
  go_wp2_with fail
  refine (laws_toIntS _ _ _ x.den _ _ (Sl.below W2.out (by (repeat (first | (with_reducible exact Below.refl _ _) | ((with_reducible refine Below.set ?_ ?_ _); rotate_left; (simp <;> omega)) | (with_reducible refine Below.box_ ?_ _) | (with_reducible refine Below.next ?_ (by assumption)))))) (by have := W2.out.1; omega)).mono ?_
  rintro e u1 ⟨B1, m1, d1, t1, rfl, hs1, ho1, hb1⟩
  have HS1 := hid (show Dat.at_ u1 [.slice B1 m1 d1] x.den t1 from ⟨_, _, _, rfl, hs1⟩)
  have HO1 := hid ho1
  clear hs1 ho1
  obtain ⟨hc1, hf1⟩ := bcell hb1
  have hz1 : w.heap.size < u1.heap.size ∧ w.heap.size + 1 < u1.heap.size ∧ w.heap.size + 1 + 1 < u1.heap.size := by have := hb1.size; (try simp at this); omega
  obtain ⟨hz1a, hz1b, hz1c⟩ := hz1
  go_wp2
  refine bodyPost_ret (v := .agg #[.bool x.num.neg, .slice B01 nB01 cB01, .slice B1 m1 d1]) (by simp [results, Tryz.results16, go_sem, *]) rfl ?_
  have a0 : ∀ W : World, Above (w.heap.size + 3) u0 W → Dat.at_ W [.bool x.num.neg, .slice B01 nB01 cB01] x.num _ ∧ Own w W _ := fun W ha =>
    ⟨At.above HS0.out HO0.out ha (by simp <;> omega), (HO0.out.above ha (by simp <;> omega)).older (by simp <;> omega)⟩
  have a1 : ∀ W : World, Above (w.heap.size + 3) u1 W → Dat.at_ W [.slice B1 m1 d1] x.den _ ∧ Own w W _ := fun W ha =>
    ⟨At.above HS1.out HO1.out ha (by simp <;> omega), (HO1.out.above ha (by simp <;> omega)).older (by simp <;> omega)⟩
  refine ⟨_, _, rfl, ⟨_, rfl, ⟨_, _, _, _, rfl, rfl, (a0 _ (by (repeat (first | (with_reducible exact Above.refl _ _) | ((with_reducible refine Above.set ?_ ?_ _); rotate_left; (simp <;> omega)) | (with_reducible refine Above.box ?_ _) | (with_reducible refine Above.below ?_ (by assumption)))))).1, (a1 _ (by (repeat (first | (with_reducible exact Above.refl _ _) | ((with_reducible refine Above.set ?_ ?_ _); rotate_left; (simp <;> omega)) | (with_reducible refine Above.box ?_ _) | (with_reducible refine Above.below ?_ (by assumption)))))).1⟩⟩, ?_, ?_⟩
  · have hsz' : True := trivial
    have q0 := hb0.size; (try simp at q0)
    have q1 := hb1.size; (try simp at q1)
    refine Own.append (a0 _ (by (repeat (first | (with_reducible exact Above.refl _ _) | ((with_reducible refine Above.set ?_ ?_ _); rotate_left; (simp <;> omega)) | (with_reducible refine Above.box ?_ _) | (with_reducible refine Above.below ?_ (by assumption)))))).2 ?_ ?_
    rotate_left
    · refine apart_of_lt (N := u0.heap.size) HO0.out.lt ?_
      intro b hb
      have h1 := (HO1.out.2 b hb).1; (try simp at h1); omega
    exact (a1 _ (by (repeat (first | (with_reducible exact Above.refl _ _) | ((with_reducible refine Above.set ?_ ?_ _); rotate_left; (simp <;> omega)) | (with_reducible refine Above.box ?_ _) | (with_reducible refine Above.below ?_ (by assumption)))))).2
  · (repeat (first | (with_reducible exact Below.refl _ _) | ((with_reducible refine Below.set ?_ ?_ _); rotate_left; (simp <;> omega)) | (with_reducible refine Below.box_ ?_ _) | (with_reducible refine Below.next ?_ (by assumption))))
set_option maxHeartbeats 1000000 in
theorem laws_toRatS (A : Option Addr) (n c : Nat) (xs : List TRat) (bs : List Nat) (w : World) (hx : Sl w A n c xs bs) (hsz : cntL TRat.cnt xs ≤ 1048576) :
    Calls Tryz.prog 15 #[.slice A n c] w (GivesSl w xs) := by
  have HL := hid hx.1
  have HX := hid hx
  have HC := hid hsz
  have hn : n ≤ 1048576 := by have := hx.1; unfold cntL at hsz; omega
  obtain ⟨i0, z0, hi, hz0, hz1, hz2⟩ := info_zero (P := Tryz.prog) (e := 43) (size := 3) (by kernel_rfl)
  clear hx hsz
  go_enter Tryz.func15, Tryz.ntmps15
  go_wp2_with (first | (at_make; refine wpList_make_full _ rfl _ _ 39 rfl w.heap.size 43 i0 z0 3 Tryz.underlying39 hi hz0 hz1 .i64 .i64 _ _ n rfl rfl rfl rfl (Nat.le_trans (Nat.mul_le_mul hz2 hn) (by decide)) (Nat.le_trans hn (by decide)) (Nat.le_refl _) ?_; intro w1 hown hgrow))
  go_loopw [4] (fun i wr => ∃ (k : Nat) (cells : List Value) (fss : List (List Nat)), k ≤ n ∧ i = .int .i64 k ∧ wr.ownsRow w.heap.size 43 3 (.slice (some ⟨w.heap.size, 0, none⟩) n n) n cells ∧ Filled wr cells (xs.take k) fss ∧ Own w wr fss.flatten ∧ (∀ g ∈ fss.flatten, w.heap.size < g) ∧ Below w.heap.size w wr) (fun i _ => n - (intOf i).toNat)
  case atStart => exact ⟨0, _, [], Nat.zero_le _, rfl, hown, Filled.nil _ _, Own.nil _ _, fun _ h => by simp at h, (Below.refl _ _).grown hgrow (Nat.le_refl _) (by simp)⟩
  case round =>
    obtain ⟨k, cells, fss, hk, rfl, hown, hfil, how, hgt, hb⟩ := hrel
    clear hgrow
    have HFil := hid hfil; have HOw := hid how; have HGt := hid hgt; have HOwn := hid hown
    have HN : w.heap.size < wr.heap.size := (World.ownsRow.lt hown _ rfl).2
    clear hfil how hgt
    by_cases hlt : k < n
    · obtain ⟨be, offe, x, A1, nA1, cA1, sA1, A2, nA2, cA2, sA2, rfl, hble, hxke, ee0, ee1, ee2, e1, e2, hmeme⟩ := TRat.elem (Sl.below HX.out hb) hlt
      have HXk := hid hxke
      have W1 := hid e1
      have W2 := hid e2
      clear hxke e1 e2 hmeme hown
      go_wp2_with fail
      refine (laws_toRat _ x _ _ (TRat.mkAgg W1.out W2.out) (by have := cnt_le_cntL TRat.cnt HXk.out; have := HC.out; omega)).mono ?_
      rintro e u ⟨v, fs, rfl, hv, ho, hbu⟩
      obtain ⟨B1, nB1, cB1, sB1, B2, nB2, cB2, sB2, rfl, rfl, y1, y2⟩ := TRat.agg hv
      have HV := hid (TRat.shut y1 y2 : Dat.at_ u [.bool x.num.neg, .slice B1 nB1 cB1, .slice B2 nB2 cB2] x _)
      have HO := hid ho
      clear hv ho y1 y2
      have hown1 := ownsRow_below HOwn.out hbu
      have HOwn1 := hid hown1
      have hlen : (k + 1) * 3 ≤ cells.length := by rw [hown1.1]; omega
      obtain ⟨o0, g0⟩ := own_cell hown1 (k * 3) (by omega)
      obtain ⟨o1, g1⟩ := own_cell hown1 (k * 3 + 1) (by omega)
      obtain ⟨o2, g2⟩ := own_cell hown1 (k * 3 + 2) (by omega)
      have z0 := World.ownsRow.frozenAt hown1 (k * 3)
      have z1 := World.ownsRow.frozenAt hown1 (k * 3 + 1)
      have z2 := World.ownsRow.frozenAt hown1 (k * 3 + 2)
      clear hown1
      go_wp2
      go_roundw
      case rel =>
        have hst := own_setCells HOwn1.out [.bool x.num.neg, .slice B1 nB1 cB1, .slice B2 nB2 cB2] (k * 3)
        have hkl : (xs.take k).length = k := by rw [List.length_take, HL.out]; omega
        refine ⟨k + 1, _, fss ++ [sB1 ++ (sB2)], by omega, by go_num, hst, ?_, ?_, ?_, ?_⟩
        · rw [take_step HXk.out]
          have h1 := Filled.store (Filled.below HFil.out hbu) HV.out (by rw [hkl]; exact hlen)
          rw [hkl] at h1
          exact h1.keep fun g hg => heap_setCells w.heap.size [.bool x.num.neg, .slice B1 nB1 cB1, .slice B2 nB2 cB2] u (k * 3) g (by
            rw [List.flatten_append] at hg
            rcases List.mem_append.1 hg with hg | hg
            · have := HGt.out g hg; omega
            · have := (HO.out.2 g (by simpa using hg)).1; omega)
        · rw [List.flatten_append]
          have ho1 : Own w u fss.flatten := HOw.out.below hbu
          have ho2 : Own w u ([sB1 ++ (sB2)] : List (List Nat)).flatten := by simpa using HO.out.olderThan hb
          refine own_setCells_keep (w := u) (g := w.heap.size) (cs := [.bool x.num.neg, .slice B1 nB1 cB1, .slice B2 nB2 cB2]) (i := k * 3) (Own.append ho1 ho2 ?_) ?_
          · exact apart_of_lt (N := wr.heap.size) HOw.out.lt (fun b hb => by have := (HO.out.2 b (by simpa using hb)).1; omega)
          · intro g hg
            rcases List.mem_append.1 hg with hg | hg
            · have := HGt.out g hg; omega
            · have := (HO.out.2 g (by simpa using hg)).1; omega
        · intro g hg
          rw [List.flatten_append] at hg
          rcases List.mem_append.1 hg with hg | hg
          · exact HGt.out g hg
          · have := (HO.out.2 g (by simpa using hg)).1; omega
        · exact below_setCells (Below.next hb hbu) (Nat.le_refl _) [.bool x.num.neg, .slice B1 nB1 cB1, .slice B2 nB2 cB2] (k * 3)
      case measure => simp [intOf]; omega
    · obtain rfl : k = n := by omega
      go_wp2
      go_ret
      have hfil := HFil.out
      rw [List.take_of_length_le (Nat.le_of_eq HL.out)] at hfil
      obtain ⟨A', c', bs', hv, hs, ho⟩ := hfil.sl HOwn.out HL.out
      refine ⟨A', k, c', bs', by rw [← hv]; rfl, hs, own_of_row (n := k) (fss := fss) ?_ HOw.out, hb⟩
      rcases ho with ho | ⟨g, h1, h2, h3, h4⟩
      · exact .inl ho
      · refine .inr ⟨g, h2, h3, h4, fun hg => ?_⟩
        have := HGt.out g hg
        have e : w.heap.size = g := by simpa [Value.ownBlock] using h1
        omega
set_option maxHeartbeats 1000000 in
theorem laws_toPoint (v : Value) (x : TPoint) (bs : List Nat) (w : World) (hx : Agg w v x bs) (hsz : x.cnt ≤ 1048576) : Calls Tryz.prog 29 #[v] w (GivesAgg w x) := by
  obtain ⟨A1, nA1, cA1, sA1, A2, nA2, cA2, sA2, A4, nA4, cA4, sA4, A5, nA5, cA5, sA5, rfl, rfl, w1, w2, w4, w5⟩ := TPoint.agg hx
  have W1 := hid w1
  have W2 := hid w2
  have W4 := hid w4
  have W5 := hid w5
  clear hx w1 w2 w4 w5
  unfold TPoint.cnt at hsz
  go_enter Tryz.func29, Tryz.ntmps29
  go_wp2_with fail
  refine (laws_toRat _ x.x _ _ (TRat.mkAgg (Sl.below W1.out (by (repeat (first | (with_reducible exact Below.refl _ _) | ((with_reducible refine Below.set ?_ ?_ _); rotate_left; (simp <;> omega)) | (with_reducible refine Below.box_ ?_ _) | (with_reducible refine Below.next ?_ (by assumption)))))) (Sl.below W2.out (by (repeat (first | (with_reducible exact Below.refl _ _) | ((with_reducible refine Below.set ?_ ?_ _); rotate_left; (simp <;> omega)) | (with_reducible refine Below.box_ ?_ _) | (with_reducible refine Below.next ?_ (by assumption))))))) (by omega)).mono ?_
  rintro e u0 ⟨r0, t0, rfl, hs0, ho0, hb0⟩
  obtain ⟨B01, nB01, cB01, sB01, B02, nB02, cB02, sB02, rfl, rfl, y1, y2⟩ := TRat.agg hs0
  have HS0 := hid (TRat.shut y1 y2)
  have HO0 := hid ho0
  clear hs0 ho0 y1 y2
  obtain ⟨hc0, hf0⟩ := bcell hb0
  have hz0 : w.heap.size < u0.heap.size ∧ w.heap.size + 1 < u0.heap.size ∧ w.heap.size + 1 + 1 < u0.heap.size := by have := hb0.size; (try simp at this); omega
  obtain ⟨hz0a, hz0b, hz0c⟩ := hz0
  go_wp2_with fail
  refine (laws_toRat _ x.y _ _ (TRat.mkAgg (Sl.below W4.out (by (repeat (first | (with_reducible exact Below.refl _ _) | ((with_reducible refine Below.set ?_ ?_ _); rotate_left; (simp <;> omega)) | (with_reducible refine Below.box_ ?_ _) | (with_reducible refine Below.next ?_ (by assumption)))))) (Sl.below W5.out (by (repeat (first | (with_reducible exact Below.refl _ _) | ((with_reducible refine Below.set ?_ ?_ _); rotate_left; (simp <;> omega)) | (with_reducible refine Below.box_ ?_ _) | (with_reducible refine Below.next ?_ (by assumption))))))) (by omega)).mono ?_
  rintro e u1 ⟨r1, t1, rfl, hs1, ho1, hb1⟩
  obtain ⟨B11, nB11, cB11, sB11, B12, nB12, cB12, sB12, rfl, rfl, y1, y2⟩ := TRat.agg hs1
  have HS1 := hid (TRat.shut y1 y2)
  have HO1 := hid ho1
  clear hs1 ho1 y1 y2
  obtain ⟨hc1, hf1⟩ := bcell hb1
  have hz1 : w.heap.size < u1.heap.size ∧ w.heap.size + 1 < u1.heap.size ∧ w.heap.size + 1 + 1 < u1.heap.size := by have := hb1.size; (try simp at this); omega
  obtain ⟨hz1a, hz1b, hz1c⟩ := hz1
  go_wp2
  refine bodyPost_ret (v := .agg #[.bool x.x.num.neg, .slice B01 nB01 cB01, .slice B02 nB02 cB02, .bool x.y.num.neg, .slice B11 nB11 cB11, .slice B12 nB12 cB12]) (by simp [results, Tryz.results29, go_sem, *]) rfl ?_
  have a0 : ∀ W : World, Above (w.heap.size + 3) u0 W → Dat.at_ W [.bool x.x.num.neg, .slice B01 nB01 cB01, .slice B02 nB02 cB02] x.x _ ∧ Own w W _ := fun W ha =>
    ⟨At.above HS0.out HO0.out ha (by simp <;> omega), (HO0.out.above ha (by simp <;> omega)).older (by simp <;> omega)⟩
  have a1 : ∀ W : World, Above (w.heap.size + 3) u1 W → Dat.at_ W [.bool x.y.num.neg, .slice B11 nB11 cB11, .slice B12 nB12 cB12] x.y _ ∧ Own w W _ := fun W ha =>
    ⟨At.above HS1.out HO1.out ha (by simp <;> omega), (HO1.out.above ha (by simp <;> omega)).older (by simp <;> omega)⟩
  refine ⟨_, _, rfl, ⟨_, rfl, ⟨_, _, _, _, rfl, rfl, (a0 _ (by (repeat (first | (with_reducible exact Above.refl _ _) | ((with_reducible refine Above.set ?_ ?_ _); rotate_left; (simp <;> omega)) | (with_reducible refine Above.box ?_ _) | (with_reducible refine Above.below ?_ (by assumption)))))).1, (a1 _ (by (repeat (first | (with_reducible exact Above.refl _ _) | ((with_reducible refine Above.set ?_ ?_ _); rotate_left; (simp <;> omega)) | (with_reducible refine Above.box ?_ _) | (with_reducible refine Above.below ?_ (by assumption)))))).1⟩⟩, ?_, ?_⟩
  · have hsz' : True := trivial
    have q0 := hb0.size; (try simp at q0)
    have q1 := hb1.size; (try simp at q1)
    refine Own.append (a0 _ (by (repeat (first | (with_reducible exact Above.refl _ _) | ((with_reducible refine Above.set ?_ ?_ _); rotate_left; (simp <;> omega)) | (with_reducible refine Above.box ?_ _) | (with_reducible refine Above.below ?_ (by assumption)))))).2 ?_ ?_
    rotate_left
    · refine apart_of_lt (N := u0.heap.size) HO0.out.lt ?_
      intro b hb
      have h1 := (HO1.out.2 b hb).1; (try simp at h1); omega
    exact (a1 _ (by (repeat (first | (with_reducible exact Above.refl _ _) | ((with_reducible refine Above.set ?_ ?_ _); rotate_left; (simp <;> omega)) | (with_reducible refine Above.box ?_ _) | (with_reducible refine Above.below ?_ (by assumption)))))).2
  · (repeat (first | (with_reducible exact Below.refl _ _) | ((with_reducible refine Below.set ?_ ?_ _); rotate_left; (simp <;> omega)) | (with_reducible refine Below.box_ ?_ _) | (with_reducible refine Below.next ?_ (by assumption))))
set_option maxHeartbeats 1000000 in
theorem laws_toPointS (A : Option Addr) (n c : Nat) (xs : List TPoint) (bs : List Nat) (w : World) (hx : Sl w A n c xs bs) (hsz : cntL TPoint.cnt xs ≤ 1048576) :
    Calls Tryz.prog 7 #[.slice A n c] w (GivesSl w xs) := by
  have HL := hid hx.1
  have HX := hid hx
  have HC := hid hsz
  have hn : n ≤ 1048576 := by have := hx.1; unfold cntL at hsz; omega
  obtain ⟨i0, z0, hi, hz0, hz1, hz2⟩ := info_zero (P := Tryz.prog) (e := 57) (size := 6) (by kernel_rfl)
  clear hx hsz
  go_enter Tryz.func7, Tryz.ntmps7
  go_wp2_with (first | (at_make; refine wpList_make_full _ rfl _ _ 24 rfl w.heap.size 57 i0 z0 6 Tryz.underlying24 hi hz0 hz1 .i64 .i64 _ _ n rfl rfl rfl rfl (Nat.le_trans (Nat.mul_le_mul hz2 hn) (by decide)) (Nat.le_trans hn (by decide)) (Nat.le_refl _) ?_; intro w1 hown hgrow))
  go_loopw [4] (fun i wr => ∃ (k : Nat) (cells : List Value) (fss : List (List Nat)), k ≤ n ∧ i = .int .i64 k ∧ wr.ownsRow w.heap.size 57 6 (.slice (some ⟨w.heap.size, 0, none⟩) n n) n cells ∧ Filled wr cells (xs.take k) fss ∧ Own w wr fss.flatten ∧ (∀ g ∈ fss.flatten, w.heap.size < g) ∧ Below w.heap.size w wr) (fun i _ => n - (intOf i).toNat)
  case atStart => exact ⟨0, _, [], Nat.zero_le _, rfl, hown, Filled.nil _ _, Own.nil _ _, fun _ h => by simp at h, (Below.refl _ _).grown hgrow (Nat.le_refl _) (by simp)⟩
  case round =>
    obtain ⟨k, cells, fss, hk, rfl, hown, hfil, how, hgt, hb⟩ := hrel
    clear hgrow
    have HFil := hid hfil; have HOw := hid how; have HGt := hid hgt; have HOwn := hid hown
    have HN : w.heap.size < wr.heap.size := (World.ownsRow.lt hown _ rfl).2
    clear hfil how hgt
    by_cases hlt : k < n
    · obtain ⟨be, offe, x, A1, nA1, cA1, sA1, A2, nA2, cA2, sA2, A4, nA4, cA4, sA4, A5, nA5, cA5, sA5, rfl, hble, hxke, ee0, ee1, ee2, ee3, ee4, ee5, e1, e2, e4, e5, hmeme⟩ := TPoint.elem (Sl.below HX.out hb) hlt
      have HXk := hid hxke
      have W1 := hid e1
      have W2 := hid e2
      have W4 := hid e4
      have W5 := hid e5
      clear hxke e1 e2 e4 e5 hmeme hown
      go_wp2_with fail
      refine (laws_toPoint _ x _ _ (TPoint.mkAgg W1.out W2.out W4.out W5.out) (by have := cnt_le_cntL TPoint.cnt HXk.out; have := HC.out; omega)).mono ?_
      rintro e u ⟨v, fs, rfl, hv, ho, hbu⟩
      obtain ⟨B1, nB1, cB1, sB1, B2, nB2, cB2, sB2, B4, nB4, cB4, sB4, B5, nB5, cB5, sB5, rfl, rfl, y1, y2, y4, y5⟩ := TPoint.agg hv
      have HV := hid (TPoint.shut y1 y2 y4 y5 : Dat.at_ u [.bool x.x.num.neg, .slice B1 nB1 cB1, .slice B2 nB2 cB2, .bool x.y.num.neg, .slice B4 nB4 cB4, .slice B5 nB5 cB5] x _)
      have HO := hid ho
      clear hv ho y1 y2 y4 y5
      have hown1 := ownsRow_below HOwn.out hbu
      have HOwn1 := hid hown1
      have hlen : (k + 1) * 6 ≤ cells.length := by rw [hown1.1]; omega
      obtain ⟨o0, g0⟩ := own_cell hown1 (k * 6) (by omega)
      obtain ⟨o1, g1⟩ := own_cell hown1 (k * 6 + 1) (by omega)
      obtain ⟨o2, g2⟩ := own_cell hown1 (k * 6 + 2) (by omega)
      obtain ⟨o3, g3⟩ := own_cell hown1 (k * 6 + 3) (by omega)
      obtain ⟨o4, g4⟩ := own_cell hown1 (k * 6 + 4) (by omega)
      obtain ⟨o5, g5⟩ := own_cell hown1 (k * 6 + 5) (by omega)
      have z0 := World.ownsRow.frozenAt hown1 (k * 6)
      have z1 := World.ownsRow.frozenAt hown1 (k * 6 + 1)
      have z2 := World.ownsRow.frozenAt hown1 (k * 6 + 2)
      have z3 := World.ownsRow.frozenAt hown1 (k * 6 + 3)
      have z4 := World.ownsRow.frozenAt hown1 (k * 6 + 4)
      have z5 := World.ownsRow.frozenAt hown1 (k * 6 + 5)
      clear hown1
      go_wp2
      go_roundw
      case rel =>
        have hst := own_setCells HOwn1.out [.bool x.x.num.neg, .slice B1 nB1 cB1, .slice B2 nB2 cB2, .bool x.y.num.neg, .slice B4 nB4 cB4, .slice B5 nB5 cB5] (k * 6)
        have hkl : (xs.take k).length = k := by rw [List.length_take, HL.out]; omega
        refine ⟨k + 1, _, fss ++ [sB1 ++ (sB2 ++ (sB4 ++ (sB5)))], by omega, by go_num, hst, ?_, ?_, ?_, ?_⟩
        · rw [take_step HXk.out]
          have h1 := Filled.store (Filled.below HFil.out hbu) HV.out (by rw [hkl]; exact hlen)
          rw [hkl] at h1
          exact h1.keep fun g hg => heap_setCells w.heap.size [.bool x.x.num.neg, .slice B1 nB1 cB1, .slice B2 nB2 cB2, .bool x.y.num.neg, .slice B4 nB4 cB4, .slice B5 nB5 cB5] u (k * 6) g (by
            rw [List.flatten_append] at hg
            rcases List.mem_append.1 hg with hg | hg
            · have := HGt.out g hg; omega
            · have := (HO.out.2 g (by simpa using hg)).1; omega)
        · rw [List.flatten_append]
          have ho1 : Own w u fss.flatten := HOw.out.below hbu
          have ho2 : Own w u ([sB1 ++ (sB2 ++ (sB4 ++ (sB5)))] : List (List Nat)).flatten := by simpa using HO.out.olderThan hb
          refine own_setCells_keep (w := u) (g := w.heap.size) (cs := [.bool x.x.num.neg, .slice B1 nB1 cB1, .slice B2 nB2 cB2, .bool x.y.num.neg, .slice B4 nB4 cB4, .slice B5 nB5 cB5]) (i := k * 6) (Own.append ho1 ho2 ?_) ?_
          · exact apart_of_lt (N := wr.heap.size) HOw.out.lt (fun b hb => by have := (HO.out.2 b (by simpa using hb)).1; omega)
          · intro g hg
            rcases List.mem_append.1 hg with hg | hg
            · have := HGt.out g hg; omega
            · have := (HO.out.2 g (by simpa using hg)).1; omega
        · intro g hg
          rw [List.flatten_append] at hg
          rcases List.mem_append.1 hg with hg | hg
          · exact HGt.out g hg
          · have := (HO.out.2 g (by simpa using hg)).1; omega
        · exact below_setCells (Below.next hb hbu) (Nat.le_refl _) [.bool x.x.num.neg, .slice B1 nB1 cB1, .slice B2 nB2 cB2, .bool x.y.num.neg, .slice B4 nB4 cB4, .slice B5 nB5 cB5] (k * 6)
      case measure => simp [intOf]; omega
    · obtain rfl : k = n := by omega
      go_wp2
      go_ret
      have hfil := HFil.out
      rw [List.take_of_length_le (Nat.le_of_eq HL.out)] at hfil
      obtain ⟨A', c', bs', hv, hs, ho⟩ := hfil.sl HOwn.out HL.out
      refine ⟨A', k, c', bs', by rw [← hv]; rfl, hs, own_of_row (n := k) (fss := fss) ?_ HOw.out, hb⟩
      rcases ho with ho | ⟨g, h1, h2, h3, h4⟩
      · exact .inl ho
      · refine .inr ⟨g, h2, h3, h4, fun hg => ?_⟩
        have := HGt.out g hg
        have e : w.heap.size = g := by simpa [Value.ownBlock] using h1
        omega
end Go.Proofs.YthlpjpcnpcclhaaGreat.X

/- The laws' comparisons: laws.eq... Written by gen_law.py. -/
namespace Go.Proofs.YthlpjpcnpcclhaaGreat.X
open Go.RowKit Go.XB
attribute [local go_sem] fillBy opAt deps depOf Region.wanted yielded
attribute [local simp] deps depOf MP.eq Facts
set_option maxHeartbeats 1000000 in
theorem laws_eqBigInt (v v' : Value) (x y : TBigInt) (bs bs' : List Nat) (w : World) (hx : Agg w v x bs) (hy : Agg w v' y bs') : Calls Tryz.prog 55 #[v, v'] w (Gives w (.bool (decide (x = y)))) := by
  obtain ⟨A1, nA1, cA1, sA1, rfl, rfl, w1⟩ := TBigInt.agg hx
  obtain ⟨B1, nB1, cB1, sB1, rfl, rfl, v1⟩ := TBigInt.agg hy
  have W1 := hid w1; have V1 := hid v1
  clear hx hy w1 v1
  by_cases q0 : x.neg = y.neg
  rotate_left
  · have g0 : (!x.neg == y.neg) = true := by simp [q0]
    have Q := hid q0; clear q0
    go_enter Tryz.func55, Tryz.ntmps55
    go_wp2
    go_ret
    exact ⟨ret_bool (by have : x ≠ y := fun e => Q.out (by rw [e]); simp [this]), by (repeat (first | (with_reducible exact Below.refl _ _) | ((with_reducible refine Below.set ?_ ?_ _); rotate_left; (simp <;> omega)) | (with_reducible refine Below.box_ ?_ _) | (with_reducible refine Below.next ?_ (by assumption))))⟩
  have g0 : (!x.neg == y.neg) = false := by simp [q0]
  have Q0 := hid q0; clear q0
  by_cases q1 : x.mag = y.mag
  rotate_left
  · have g1 : decide (x.mag = y.mag) = false := by simp [q1]
    have Q := hid q1; clear q1
    go_enter Tryz.func55, Tryz.ntmps55
    go_wp2_with fail
    refine (laws_eqIntS _ _ _ _ _ _ x.mag y.mag _ _ _ (Sl.below W1.out (by (repeat (first | (with_reducible exact Below.refl _ _) | ((with_reducible refine Below.set ?_ ?_ _); rotate_left; (simp <;> omega)) | (with_reducible refine Below.box_ ?_ _) | (with_reducible refine Below.next ?_ (by assumption)))))) (Sl.below V1.out (by (repeat (first | (with_reducible exact Below.refl _ _) | ((with_reducible refine Below.set ?_ ?_ _); rotate_left; (simp <;> omega)) | (with_reducible refine Below.box_ ?_ _) | (with_reducible refine Below.next ?_ (by assumption))))))).mono ?_
    rintro e u1 ⟨rfl, hb1⟩
    obtain ⟨hc1, hf1⟩ := bcell hb1
    have hz1 : w.heap.size < u1.heap.size ∧ w.heap.size + 1 < u1.heap.size := by have := hb1.size; (try simp at this); omega
    obtain ⟨hz1a, hz1b⟩ := hz1
    go_wp2
    go_ret
    exact ⟨ret_bool (by have : x ≠ y := fun e => Q.out (by rw [e]); simp [this]), by (repeat (first | (with_reducible exact Below.refl _ _) | ((with_reducible refine Below.set ?_ ?_ _); rotate_left; (simp <;> omega)) | (with_reducible refine Below.box_ ?_ _) | (with_reducible refine Below.next ?_ (by assumption))))⟩
  have g1 : decide (x.mag = y.mag) = true := by simp [q1]
  have Q1 := hid q1; clear q1
  go_enter Tryz.func55, Tryz.ntmps55
  go_wp2_with fail
  refine (laws_eqIntS _ _ _ _ _ _ x.mag y.mag _ _ _ (Sl.below W1.out (by (repeat (first | (with_reducible exact Below.refl _ _) | ((with_reducible refine Below.set ?_ ?_ _); rotate_left; (simp <;> omega)) | (with_reducible refine Below.box_ ?_ _) | (with_reducible refine Below.next ?_ (by assumption)))))) (Sl.below V1.out (by (repeat (first | (with_reducible exact Below.refl _ _) | ((with_reducible refine Below.set ?_ ?_ _); rotate_left; (simp <;> omega)) | (with_reducible refine Below.box_ ?_ _) | (with_reducible refine Below.next ?_ (by assumption))))))).mono ?_
  rintro e u1 ⟨rfl, hb1⟩
  obtain ⟨hc1, hf1⟩ := bcell hb1
  have hz1 : w.heap.size < u1.heap.size ∧ w.heap.size + 1 < u1.heap.size := by have := hb1.size; (try simp at this); omega
  obtain ⟨hz1a, hz1b⟩ := hz1
  go_wp2
  go_ret
  have heq : x = y := by cases x; cases y; simp only [TBigInt.mk.injEq]; exact ⟨Q0.out, Q1.out⟩
  exact ⟨ret_bool (by simp [heq]), by (repeat (first | (with_reducible exact Below.refl _ _) | ((with_reducible refine Below.set ?_ ?_ _); rotate_left; (simp <;> omega)) | (with_reducible refine Below.box_ ?_ _) | (with_reducible refine Below.next ?_ (by assumption))))⟩
set_option maxHeartbeats 1000000 in
theorem laws_eqRat (v v' : Value) (x y : TRat) (bs bs' : List Nat) (w : World) (hx : Agg w v x bs) (hy : Agg w v' y bs') : Calls Tryz.prog 20 #[v, v'] w (Gives w (.bool (decide (x = y)))) := by
  obtain ⟨A1, nA1, cA1, sA1, A2, nA2, cA2, sA2, rfl, rfl, w1, w2⟩ := TRat.agg hx
  obtain ⟨B1, nB1, cB1, sB1, B2, nB2, cB2, sB2, rfl, rfl, v1, v2⟩ := TRat.agg hy
  have W1 := hid w1; have V1 := hid v1
  have W2 := hid w2; have V2 := hid v2
  clear hx hy w1 v1 w2 v2
  by_cases q0 : x.num = y.num
  rotate_left
  · have g0 : decide (x.num = y.num) = false := by simp [q0]
    have Q := hid q0; clear q0
    go_enter Tryz.func20, Tryz.ntmps20
    go_wp2_with fail
    refine (laws_eqBigInt _ _ x.num y.num _ _ _ (TBigInt.mkAgg (Sl.below W1.out (by (repeat (first | (with_reducible exact Below.refl _ _) | ((with_reducible refine Below.set ?_ ?_ _); rotate_left; (simp <;> omega)) | (with_reducible refine Below.box_ ?_ _) | (with_reducible refine Below.next ?_ (by assumption))))))) (TBigInt.mkAgg (Sl.below V1.out (by (repeat (first | (with_reducible exact Below.refl _ _) | ((with_reducible refine Below.set ?_ ?_ _); rotate_left; (simp <;> omega)) | (with_reducible refine Below.box_ ?_ _) | (with_reducible refine Below.next ?_ (by assumption)))))))).mono ?_
    rintro e u0 ⟨rfl, hb0⟩
    obtain ⟨hc0, hf0⟩ := bcell hb0
    have hz0 : w.heap.size < u0.heap.size ∧ w.heap.size + 1 < u0.heap.size := by have := hb0.size; (try simp at this); omega
    obtain ⟨hz0a, hz0b⟩ := hz0
    go_wp2
    go_ret
    exact ⟨ret_bool (by have : x ≠ y := fun e => Q.out (by rw [e]); simp [this]), by (repeat (first | (with_reducible exact Below.refl _ _) | ((with_reducible refine Below.set ?_ ?_ _); rotate_left; (simp <;> omega)) | (with_reducible refine Below.box_ ?_ _) | (with_reducible refine Below.next ?_ (by assumption))))⟩
  have g0 : decide (x.num = y.num) = true := by simp [q0]
  have Q0 := hid q0; clear q0
  by_cases q1 : x.den = y.den
  rotate_left
  · have g1 : decide (x.den = y.den) = false := by simp [q1]
    have Q := hid q1; clear q1
    go_enter Tryz.func20, Tryz.ntmps20
    go_wp2_with fail
    refine (laws_eqBigInt _ _ x.num y.num _ _ _ (TBigInt.mkAgg (Sl.below W1.out (by (repeat (first | (with_reducible exact Below.refl _ _) | ((with_reducible refine Below.set ?_ ?_ _); rotate_left; (simp <;> omega)) | (with_reducible refine Below.box_ ?_ _) | (with_reducible refine Below.next ?_ (by assumption))))))) (TBigInt.mkAgg (Sl.below V1.out (by (repeat (first | (with_reducible exact Below.refl _ _) | ((with_reducible refine Below.set ?_ ?_ _); rotate_left; (simp <;> omega)) | (with_reducible refine Below.box_ ?_ _) | (with_reducible refine Below.next ?_ (by assumption)))))))).mono ?_
    rintro e u0 ⟨rfl, hb0⟩
    obtain ⟨hc0, hf0⟩ := bcell hb0
    have hz0 : w.heap.size < u0.heap.size ∧ w.heap.size + 1 < u0.heap.size := by have := hb0.size; (try simp at this); omega
    obtain ⟨hz0a, hz0b⟩ := hz0
    go_wp2_with fail
    refine (laws_eqIntS _ _ _ _ _ _ x.den y.den _ _ _ (Sl.below W2.out (by (repeat (first | (with_reducible exact Below.refl _ _) | ((with_reducible refine Below.set ?_ ?_ _); rotate_left; (simp <;> omega)) | (with_reducible refine Below.box_ ?_ _) | (with_reducible refine Below.next ?_ (by assumption)))))) (Sl.below V2.out (by (repeat (first | (with_reducible exact Below.refl _ _) | ((with_reducible refine Below.set ?_ ?_ _); rotate_left; (simp <;> omega)) | (with_reducible refine Below.box_ ?_ _) | (with_reducible refine Below.next ?_ (by assumption))))))).mono ?_
    rintro e u1 ⟨rfl, hb1⟩
    obtain ⟨hc1, hf1⟩ := bcell hb1
    have hz1 : w.heap.size < u1.heap.size ∧ w.heap.size + 1 < u1.heap.size := by have := hb1.size; (try simp at this); omega
    obtain ⟨hz1a, hz1b⟩ := hz1
    go_wp2
    go_ret
    exact ⟨ret_bool (by have : x ≠ y := fun e => Q.out (by rw [e]); simp [this]), by (repeat (first | (with_reducible exact Below.refl _ _) | ((with_reducible refine Below.set ?_ ?_ _); rotate_left; (simp <;> omega)) | (with_reducible refine Below.box_ ?_ _) | (with_reducible refine Below.next ?_ (by assumption))))⟩
  have g1 : decide (x.den = y.den) = true := by simp [q1]
  have Q1 := hid q1; clear q1
  go_enter Tryz.func20, Tryz.ntmps20
  go_wp2_with fail
  refine (laws_eqBigInt _ _ x.num y.num _ _ _ (TBigInt.mkAgg (Sl.below W1.out (by (repeat (first | (with_reducible exact Below.refl _ _) | ((with_reducible refine Below.set ?_ ?_ _); rotate_left; (simp <;> omega)) | (with_reducible refine Below.box_ ?_ _) | (with_reducible refine Below.next ?_ (by assumption))))))) (TBigInt.mkAgg (Sl.below V1.out (by (repeat (first | (with_reducible exact Below.refl _ _) | ((with_reducible refine Below.set ?_ ?_ _); rotate_left; (simp <;> omega)) | (with_reducible refine Below.box_ ?_ _) | (with_reducible refine Below.next ?_ (by assumption)))))))).mono ?_
  rintro e u0 ⟨rfl, hb0⟩
  obtain ⟨hc0, hf0⟩ := bcell hb0
  have hz0 : w.heap.size < u0.heap.size ∧ w.heap.size + 1 < u0.heap.size := by have := hb0.size; (try simp at this); omega
  obtain ⟨hz0a, hz0b⟩ := hz0
  go_wp2_with fail
  refine (laws_eqIntS _ _ _ _ _ _ x.den y.den _ _ _ (Sl.below W2.out (by (repeat (first | (with_reducible exact Below.refl _ _) | ((with_reducible refine Below.set ?_ ?_ _); rotate_left; (simp <;> omega)) | (with_reducible refine Below.box_ ?_ _) | (with_reducible refine Below.next ?_ (by assumption)))))) (Sl.below V2.out (by (repeat (first | (with_reducible exact Below.refl _ _) | ((with_reducible refine Below.set ?_ ?_ _); rotate_left; (simp <;> omega)) | (with_reducible refine Below.box_ ?_ _) | (with_reducible refine Below.next ?_ (by assumption))))))).mono ?_
  rintro e u1 ⟨rfl, hb1⟩
  obtain ⟨hc1, hf1⟩ := bcell hb1
  have hz1 : w.heap.size < u1.heap.size ∧ w.heap.size + 1 < u1.heap.size := by have := hb1.size; (try simp at this); omega
  obtain ⟨hz1a, hz1b⟩ := hz1
  go_wp2
  go_ret
  have heq : x = y := by cases x; cases y; simp only [TRat.mk.injEq]; exact ⟨Q0.out, Q1.out⟩
  exact ⟨ret_bool (by simp [heq]), by (repeat (first | (with_reducible exact Below.refl _ _) | ((with_reducible refine Below.set ?_ ?_ _); rotate_left; (simp <;> omega)) | (with_reducible refine Below.box_ ?_ _) | (with_reducible refine Below.next ?_ (by assumption))))⟩
set_option maxHeartbeats 1000000 in
theorem laws_eqRatS (A A' : Option Addr) (n n' c c' : Nat) (xs ys : List TRat) (bs bs' : List Nat) (w : World) (hx : Sl w A n c xs bs) (hy : Sl w A' n' c' ys bs') :
    Calls Tryz.prog 19 #[.slice A n c, .slice A' n' c'] w (Gives w (.bool (decide (xs = ys)))) := by
  have hn : n ≤ maxLen := Nat.le_trans hx.2.1 hx.2.2.1
  have hn' : n' ≤ maxLen := Nat.le_trans hy.2.1 hy.2.2.1
  have HL := hid hx.1; have HL' := hid hy.1
  unfold maxLen at hn hn'
  have HX := hid hx; have HY := hid hy
  clear hx hy
  by_cases hne : n = n'
  · subst hne
    go_enter Tryz.func19, Tryz.ntmps19
    go_wp2
    go_loopw [5] (fun i wr => ∃ k : Nat, k ≤ n ∧ i = .int .i64 k ∧ Hid (xs.take k = ys.take k) ∧ Below w.heap.size w wr) (fun i wr => n - (intOf i).toNat)
    case atStart => exact ⟨0, Nat.zero_le _, rfl, rfl, Below.refl _ _⟩
    case round =>
      obtain ⟨k, hk, rfl, ht, hb⟩ := hrel
      by_cases hlt : k < n
      · obtain ⟨be, offe, x, A1, nA1, cA1, sA1, A2, nA2, cA2, sA2, rfl, hble, hxke, ee0, ee1, ee2, e1, e2, hmeme⟩ := TRat.elem (Sl.below HX.out hb) hlt
        obtain ⟨bf, offf, y, B1, nB1, cB1, sB1, B2, nB2, cB2, sB2, rfl, hblf, hxkf, ef0, ef1, ef2, f1, f2, hmemf⟩ := TRat.elem (Sl.below HY.out hb) hlt
        have HXk := hid hxke; have HYk := hid hxkf
        have W1 := hid e1; have V1 := hid f1
        have W2 := hid e2; have V2 := hid f2
        clear hxke hxkf e1 f1 e2 f2 hmeme hmemf
        have hi1 : (0 : Int) ≤ k := by omega
        have hi2 : (k : Int) < n := by omega
        go_wp2
        refine wp_region_walk (by kernel_rfl) (by kernel_rfl) (by kernel_rfl) ?_
        iterate 8
          apply walkM_eq
          case h =>
            intro yq zq wq hC hd
            obtain ⟨hcq, hfq⟩ := bcell hC
            simp at hd
            refine ⟨by go_simp; done, ?_⟩
            go_simp
            first | (go_ints; exact rfl) | (go_ints; rw [if_pos (by omega)]; try exact rfl) | exact rfl | (rw [if_pos (by omega)]; try exact rfl)
        refine walkM_call (MP.eq (.bool (decide (x = y)))) ?_ ?_
        · intro yq zq wq hC hd
          obtain ⟨hcq, hfq⟩ := bcell hC
          simp at hd
          refine ⟨by go_simp; done, ?_⟩
          apply Exists.intro
          apply Exists.intro
          constructor
          · go_simp
            exact ⟨rfl, rfl⟩
          · refine (laws_eqRat _ _ x y _ _ _ (TRat.mkAgg (Sl.below W1.out hC) (Sl.below W2.out hC)) (TRat.mkAgg (Sl.below V1.out hC) (Sl.below V2.out hC))).mono ?_
            rintro e w' ⟨rfl, hb⟩
            exact ⟨_, rfl, hb, [], ⟨rfl, rfl⟩, fun b hb => by simp at hb⟩
        apply walkM_eq
        case h =>
          intro yq zq wq hC hd
          obtain ⟨hcq, hfq⟩ := bcell hC
          simp at hd
          refine ⟨by go_simp; done, ?_⟩
          go_simp
          first | (go_ints; exact rfl) | (go_ints; rw [if_pos (by omega)]; try exact rfl) | exact rfl | (rw [if_pos (by omega)]; try exact rfl)
        intro yq zq wq hC hd hdis0
        have hdis := hid hdis0
        clear hdis0
        simp at hd
        by_cases hxy : x = y
        · have hbb : decide (x = y) = true := by simp [hxy]
          go_simp
          have r1 : k + 1 ≤ n := by omega
          have r3 := hid (take_eq_step HXk.out HYk.out ht.out hxy)
          go_wp2
          first
          | exact ⟨⟨k + 1, r1, num_succ k, r3, Below.next hb hC⟩, meas_succ hlt⟩
          | exact ⟨by (repeat apply Exists.intro); exact ⟨⟨k + 1, r1, num_succ k, r3, Below.next hb hC⟩, rfl⟩, meas_succ hlt⟩
        · have hbb : decide (x = y) = false := by simp [hxy]
          go_simp
          go_wp2
          go_ret
          exact ⟨ret_bool (by simp [ne_at HXk.out HYk.out hxy]), Below.next hb hC⟩
      · go_wp2
        go_ret
        exact ⟨ret_bool (by simp [take_all_eq HL.out HL'.out (by omega) ht.out]), hb⟩
  · have hb : ((n : Int) != n') = true := by simp; omega
    go_enter Tryz.func19, Tryz.ntmps19
    go_wp2
    go_ret
    exact ⟨ret_bool (by
      have : xs ≠ ys := fun e => hne (by rw [← HL.out, ← HL'.out, e])
      simp [this]), Below.refl _ _⟩
set_option maxHeartbeats 1000000 in
theorem laws_eqPoint (v v' : Value) (x y : TPoint) (bs bs' : List Nat) (w : World) (hx : Agg w v x bs) (hy : Agg w v' y bs') : Calls Tryz.prog 33 #[v, v'] w (Gives w (.bool (decide (x = y)))) := by
  obtain ⟨A1, nA1, cA1, sA1, A2, nA2, cA2, sA2, A4, nA4, cA4, sA4, A5, nA5, cA5, sA5, rfl, rfl, w1, w2, w4, w5⟩ := TPoint.agg hx
  obtain ⟨B1, nB1, cB1, sB1, B2, nB2, cB2, sB2, B4, nB4, cB4, sB4, B5, nB5, cB5, sB5, rfl, rfl, v1, v2, v4, v5⟩ := TPoint.agg hy
  have W1 := hid w1; have V1 := hid v1
  have W2 := hid w2; have V2 := hid v2
  have W4 := hid w4; have V4 := hid v4
  have W5 := hid w5; have V5 := hid v5
  clear hx hy w1 v1 w2 v2 w4 v4 w5 v5
  by_cases q0 : x.x = y.x
  rotate_left
  · have g0 : decide (x.x = y.x) = false := by simp [q0]
    have Q := hid q0; clear q0
    go_enter Tryz.func33, Tryz.ntmps33
    go_wp2_with fail
    refine (laws_eqRat _ _ x.x y.x _ _ _ (TRat.mkAgg (Sl.below W1.out (by (repeat (first | (with_reducible exact Below.refl _ _) | ((with_reducible refine Below.set ?_ ?_ _); rotate_left; (simp <;> omega)) | (with_reducible refine Below.box_ ?_ _) | (with_reducible refine Below.next ?_ (by assumption)))))) (Sl.below W2.out (by (repeat (first | (with_reducible exact Below.refl _ _) | ((with_reducible refine Below.set ?_ ?_ _); rotate_left; (simp <;> omega)) | (with_reducible refine Below.box_ ?_ _) | (with_reducible refine Below.next ?_ (by assumption))))))) (TRat.mkAgg (Sl.below V1.out (by (repeat (first | (with_reducible exact Below.refl _ _) | ((with_reducible refine Below.set ?_ ?_ _); rotate_left; (simp <;> omega)) | (with_reducible refine Below.box_ ?_ _) | (with_reducible refine Below.next ?_ (by assumption)))))) (Sl.below V2.out (by (repeat (first | (with_reducible exact Below.refl _ _) | ((with_reducible refine Below.set ?_ ?_ _); rotate_left; (simp <;> omega)) | (with_reducible refine Below.box_ ?_ _) | (with_reducible refine Below.next ?_ (by assumption)))))))).mono ?_
    rintro e u0 ⟨rfl, hb0⟩
    obtain ⟨hc0, hf0⟩ := bcell hb0
    have hz0 : w.heap.size < u0.heap.size ∧ w.heap.size + 1 < u0.heap.size := by have := hb0.size; (try simp at this); omega
    obtain ⟨hz0a, hz0b⟩ := hz0
    go_wp2
    go_ret
    exact ⟨ret_bool (by have : x ≠ y := fun e => Q.out (by rw [e]); simp [this]), by (repeat (first | (with_reducible exact Below.refl _ _) | ((with_reducible refine Below.set ?_ ?_ _); rotate_left; (simp <;> omega)) | (with_reducible refine Below.box_ ?_ _) | (with_reducible refine Below.next ?_ (by assumption))))⟩
  have g0 : decide (x.x = y.x) = true := by simp [q0]
  have Q0 := hid q0; clear q0
  by_cases q1 : x.y = y.y
  rotate_left
  · have g1 : decide (x.y = y.y) = false := by simp [q1]
    have Q := hid q1; clear q1
    go_enter Tryz.func33, Tryz.ntmps33
    go_wp2_with fail
    refine (laws_eqRat _ _ x.x y.x _ _ _ (TRat.mkAgg (Sl.below W1.out (by (repeat (first | (with_reducible exact Below.refl _ _) | ((with_reducible refine Below.set ?_ ?_ _); rotate_left; (simp <;> omega)) | (with_reducible refine Below.box_ ?_ _) | (with_reducible refine Below.next ?_ (by assumption)))))) (Sl.below W2.out (by (repeat (first | (with_reducible exact Below.refl _ _) | ((with_reducible refine Below.set ?_ ?_ _); rotate_left; (simp <;> omega)) | (with_reducible refine Below.box_ ?_ _) | (with_reducible refine Below.next ?_ (by assumption))))))) (TRat.mkAgg (Sl.below V1.out (by (repeat (first | (with_reducible exact Below.refl _ _) | ((with_reducible refine Below.set ?_ ?_ _); rotate_left; (simp <;> omega)) | (with_reducible refine Below.box_ ?_ _) | (with_reducible refine Below.next ?_ (by assumption)))))) (Sl.below V2.out (by (repeat (first | (with_reducible exact Below.refl _ _) | ((with_reducible refine Below.set ?_ ?_ _); rotate_left; (simp <;> omega)) | (with_reducible refine Below.box_ ?_ _) | (with_reducible refine Below.next ?_ (by assumption)))))))).mono ?_
    rintro e u0 ⟨rfl, hb0⟩
    obtain ⟨hc0, hf0⟩ := bcell hb0
    have hz0 : w.heap.size < u0.heap.size ∧ w.heap.size + 1 < u0.heap.size := by have := hb0.size; (try simp at this); omega
    obtain ⟨hz0a, hz0b⟩ := hz0
    go_wp2_with fail
    refine (laws_eqRat _ _ x.y y.y _ _ _ (TRat.mkAgg (Sl.below W4.out (by (repeat (first | (with_reducible exact Below.refl _ _) | ((with_reducible refine Below.set ?_ ?_ _); rotate_left; (simp <;> omega)) | (with_reducible refine Below.box_ ?_ _) | (with_reducible refine Below.next ?_ (by assumption)))))) (Sl.below W5.out (by (repeat (first | (with_reducible exact Below.refl _ _) | ((with_reducible refine Below.set ?_ ?_ _); rotate_left; (simp <;> omega)) | (with_reducible refine Below.box_ ?_ _) | (with_reducible refine Below.next ?_ (by assumption))))))) (TRat.mkAgg (Sl.below V4.out (by (repeat (first | (with_reducible exact Below.refl _ _) | ((with_reducible refine Below.set ?_ ?_ _); rotate_left; (simp <;> omega)) | (with_reducible refine Below.box_ ?_ _) | (with_reducible refine Below.next ?_ (by assumption)))))) (Sl.below V5.out (by (repeat (first | (with_reducible exact Below.refl _ _) | ((with_reducible refine Below.set ?_ ?_ _); rotate_left; (simp <;> omega)) | (with_reducible refine Below.box_ ?_ _) | (with_reducible refine Below.next ?_ (by assumption)))))))).mono ?_
    rintro e u1 ⟨rfl, hb1⟩
    obtain ⟨hc1, hf1⟩ := bcell hb1
    have hz1 : w.heap.size < u1.heap.size ∧ w.heap.size + 1 < u1.heap.size := by have := hb1.size; (try simp at this); omega
    obtain ⟨hz1a, hz1b⟩ := hz1
    go_wp2
    go_ret
    exact ⟨ret_bool (by have : x ≠ y := fun e => Q.out (by rw [e]); simp [this]), by (repeat (first | (with_reducible exact Below.refl _ _) | ((with_reducible refine Below.set ?_ ?_ _); rotate_left; (simp <;> omega)) | (with_reducible refine Below.box_ ?_ _) | (with_reducible refine Below.next ?_ (by assumption))))⟩
  have g1 : decide (x.y = y.y) = true := by simp [q1]
  have Q1 := hid q1; clear q1
  go_enter Tryz.func33, Tryz.ntmps33
  go_wp2_with fail
  refine (laws_eqRat _ _ x.x y.x _ _ _ (TRat.mkAgg (Sl.below W1.out (by (repeat (first | (with_reducible exact Below.refl _ _) | ((with_reducible refine Below.set ?_ ?_ _); rotate_left; (simp <;> omega)) | (with_reducible refine Below.box_ ?_ _) | (with_reducible refine Below.next ?_ (by assumption)))))) (Sl.below W2.out (by (repeat (first | (with_reducible exact Below.refl _ _) | ((with_reducible refine Below.set ?_ ?_ _); rotate_left; (simp <;> omega)) | (with_reducible refine Below.box_ ?_ _) | (with_reducible refine Below.next ?_ (by assumption))))))) (TRat.mkAgg (Sl.below V1.out (by (repeat (first | (with_reducible exact Below.refl _ _) | ((with_reducible refine Below.set ?_ ?_ _); rotate_left; (simp <;> omega)) | (with_reducible refine Below.box_ ?_ _) | (with_reducible refine Below.next ?_ (by assumption)))))) (Sl.below V2.out (by (repeat (first | (with_reducible exact Below.refl _ _) | ((with_reducible refine Below.set ?_ ?_ _); rotate_left; (simp <;> omega)) | (with_reducible refine Below.box_ ?_ _) | (with_reducible refine Below.next ?_ (by assumption)))))))).mono ?_
  rintro e u0 ⟨rfl, hb0⟩
  obtain ⟨hc0, hf0⟩ := bcell hb0
  have hz0 : w.heap.size < u0.heap.size ∧ w.heap.size + 1 < u0.heap.size := by have := hb0.size; (try simp at this); omega
  obtain ⟨hz0a, hz0b⟩ := hz0
  go_wp2_with fail
  refine (laws_eqRat _ _ x.y y.y _ _ _ (TRat.mkAgg (Sl.below W4.out (by (repeat (first | (with_reducible exact Below.refl _ _) | ((with_reducible refine Below.set ?_ ?_ _); rotate_left; (simp <;> omega)) | (with_reducible refine Below.box_ ?_ _) | (with_reducible refine Below.next ?_ (by assumption)))))) (Sl.below W5.out (by (repeat (first | (with_reducible exact Below.refl _ _) | ((with_reducible refine Below.set ?_ ?_ _); rotate_left; (simp <;> omega)) | (with_reducible refine Below.box_ ?_ _) | (with_reducible refine Below.next ?_ (by assumption))))))) (TRat.mkAgg (Sl.below V4.out (by (repeat (first | (with_reducible exact Below.refl _ _) | ((with_reducible refine Below.set ?_ ?_ _); rotate_left; (simp <;> omega)) | (with_reducible refine Below.box_ ?_ _) | (with_reducible refine Below.next ?_ (by assumption)))))) (Sl.below V5.out (by (repeat (first | (with_reducible exact Below.refl _ _) | ((with_reducible refine Below.set ?_ ?_ _); rotate_left; (simp <;> omega)) | (with_reducible refine Below.box_ ?_ _) | (with_reducible refine Below.next ?_ (by assumption)))))))).mono ?_
  rintro e u1 ⟨rfl, hb1⟩
  obtain ⟨hc1, hf1⟩ := bcell hb1
  have hz1 : w.heap.size < u1.heap.size ∧ w.heap.size + 1 < u1.heap.size := by have := hb1.size; (try simp at this); omega
  obtain ⟨hz1a, hz1b⟩ := hz1
  go_wp2
  go_ret
  have heq : x = y := by cases x; cases y; simp only [TPoint.mk.injEq]; exact ⟨Q0.out, Q1.out⟩
  exact ⟨ret_bool (by simp [heq]), by (repeat (first | (with_reducible exact Below.refl _ _) | ((with_reducible refine Below.set ?_ ?_ _); rotate_left; (simp <;> omega)) | (with_reducible refine Below.box_ ?_ _) | (with_reducible refine Below.next ?_ (by assumption))))⟩
set_option maxHeartbeats 1000000 in
theorem laws_eqPointS (A A' : Option Addr) (n n' c c' : Nat) (xs ys : List TPoint) (bs bs' : List Nat) (w : World) (hx : Sl w A n c xs bs) (hy : Sl w A' n' c' ys bs') :
    Calls Tryz.prog 9 #[.slice A n c, .slice A' n' c'] w (Gives w (.bool (decide (xs = ys)))) := by
  have hn : n ≤ maxLen := Nat.le_trans hx.2.1 hx.2.2.1
  have hn' : n' ≤ maxLen := Nat.le_trans hy.2.1 hy.2.2.1
  have HL := hid hx.1; have HL' := hid hy.1
  unfold maxLen at hn hn'
  have HX := hid hx; have HY := hid hy
  clear hx hy
  by_cases hne : n = n'
  · subst hne
    go_enter Tryz.func9, Tryz.ntmps9
    go_wp2
    go_loopw [5] (fun i wr => ∃ k : Nat, k ≤ n ∧ i = .int .i64 k ∧ Hid (xs.take k = ys.take k) ∧ Below w.heap.size w wr) (fun i wr => n - (intOf i).toNat)
    case atStart => exact ⟨0, Nat.zero_le _, rfl, rfl, Below.refl _ _⟩
    case round =>
      obtain ⟨k, hk, rfl, ht, hb⟩ := hrel
      by_cases hlt : k < n
      · obtain ⟨be, offe, x, A1, nA1, cA1, sA1, A2, nA2, cA2, sA2, A4, nA4, cA4, sA4, A5, nA5, cA5, sA5, rfl, hble, hxke, ee0, ee1, ee2, ee3, ee4, ee5, e1, e2, e4, e5, hmeme⟩ := TPoint.elem (Sl.below HX.out hb) hlt
        obtain ⟨bf, offf, y, B1, nB1, cB1, sB1, B2, nB2, cB2, sB2, B4, nB4, cB4, sB4, B5, nB5, cB5, sB5, rfl, hblf, hxkf, ef0, ef1, ef2, ef3, ef4, ef5, f1, f2, f4, f5, hmemf⟩ := TPoint.elem (Sl.below HY.out hb) hlt
        have HXk := hid hxke; have HYk := hid hxkf
        have W1 := hid e1; have V1 := hid f1
        have W2 := hid e2; have V2 := hid f2
        have W4 := hid e4; have V4 := hid f4
        have W5 := hid e5; have V5 := hid f5
        clear hxke hxkf e1 f1 e2 f2 e4 f4 e5 f5 hmeme hmemf
        have hi1 : (0 : Int) ≤ k := by omega
        have hi2 : (k : Int) < n := by omega
        go_wp2
        refine wp_region_walk (by kernel_rfl) (by kernel_rfl) (by kernel_rfl) ?_
        iterate 8
          apply walkM_eq
          case h =>
            intro yq zq wq hC hd
            obtain ⟨hcq, hfq⟩ := bcell hC
            simp at hd
            refine ⟨by go_simp; done, ?_⟩
            go_simp
            first | (go_ints; exact rfl) | (go_ints; rw [if_pos (by omega)]; try exact rfl) | exact rfl | (rw [if_pos (by omega)]; try exact rfl)
        refine walkM_call (MP.eq (.bool (decide (x = y)))) ?_ ?_
        · intro yq zq wq hC hd
          obtain ⟨hcq, hfq⟩ := bcell hC
          simp at hd
          refine ⟨by go_simp; done, ?_⟩
          apply Exists.intro
          apply Exists.intro
          constructor
          · go_simp
            exact ⟨rfl, rfl⟩
          · refine (laws_eqPoint _ _ x y _ _ _ (TPoint.mkAgg (Sl.below W1.out hC) (Sl.below W2.out hC) (Sl.below W4.out hC) (Sl.below W5.out hC)) (TPoint.mkAgg (Sl.below V1.out hC) (Sl.below V2.out hC) (Sl.below V4.out hC) (Sl.below V5.out hC))).mono ?_
            rintro e w' ⟨rfl, hb⟩
            exact ⟨_, rfl, hb, [], ⟨rfl, rfl⟩, fun b hb => by simp at hb⟩
        apply walkM_eq
        case h =>
          intro yq zq wq hC hd
          obtain ⟨hcq, hfq⟩ := bcell hC
          simp at hd
          refine ⟨by go_simp; done, ?_⟩
          go_simp
          first | (go_ints; exact rfl) | (go_ints; rw [if_pos (by omega)]; try exact rfl) | exact rfl | (rw [if_pos (by omega)]; try exact rfl)
        intro yq zq wq hC hd hdis0
        have hdis := hid hdis0
        clear hdis0
        simp at hd
        by_cases hxy : x = y
        · have hbb : decide (x = y) = true := by simp [hxy]
          go_simp
          have r1 : k + 1 ≤ n := by omega
          have r3 := hid (take_eq_step HXk.out HYk.out ht.out hxy)
          go_wp2
          first
          | exact ⟨⟨k + 1, r1, num_succ k, r3, Below.next hb hC⟩, meas_succ hlt⟩
          | exact ⟨by (repeat apply Exists.intro); exact ⟨⟨k + 1, r1, num_succ k, r3, Below.next hb hC⟩, rfl⟩, meas_succ hlt⟩
        · have hbb : decide (x = y) = false := by simp [hxy]
          go_simp
          go_wp2
          go_ret
          exact ⟨ret_bool (by simp [ne_at HXk.out HYk.out hxy]), Below.next hb hC⟩
      · go_wp2
        go_ret
        exact ⟨ret_bool (by simp [take_all_eq HL.out HL'.out (by omega) ht.out]), hb⟩
  · have hb : ((n : Int) != n') = true := by simp; omega
    go_enter Tryz.func9, Tryz.ntmps9
    go_wp2
    go_ret
    exact ⟨ret_bool (by
      have : xs ≠ ys := fun e => hne (by rw [← HL.out, ← HL'.out, e])
      simp [this]), Below.refl _ _⟩
end Go.Proofs.YthlpjpcnpcclhaaGreat.X

/- An argument is opened: what the reader of the row reads is data in cells, as XMem has it. Written by gen_open.py. -/
namespace Go.XB
open Go.RowKit Go.ChangeShapes Go.WideShapes Go.Deep

/-- What reads as type t is data of α. -/
def Opens (P : Program) (t : TypeId) (α : Type) [Dat α] : Prop :=
  ∀ {H : Type} (enc : TypeId × Value → H) (w : World) (fuel : Nat) (cs : List Value) (y : DataW H × List MemPlace), DataW.trod enc P w 0 (fun _ => true) true fuel t cs = some y → ∃ (x : α) (bs : List Nat), Dat.at_ w cs x bs

section
variable {P : Program} {t e : TypeId}

theorem Opens.int (ht : P.underlying t = some (.int .i64)) : Opens P t Int := fun enc w fuel cs y h => by
  obtain ⟨n, rfl, _, hn⟩ := DataW.trod_int ht h
  exact ⟨n, [], rfl, rfl, by
    simp [Lit.wf, IntKind.min, IntKind.max, IntKind.signed, IntKind.bits] at hn
    unfold I64; omega⟩

theorem Opens.bool (ht : P.underlying t = some .bool) : Opens P t Bool := fun enc w fuel cs y h => by
  obtain ⟨b, rfl, _⟩ := DataW.trod_bool ht h
  exact ⟨b, [], rfl, rfl⟩

theorem Opens.string (ht : P.underlying t = some .string) : Opens P t ByteArray := fun enc w fuel cs y h => by
  obtain ⟨s, rfl, _, hs⟩ := DataW.trod_string ht h
  exact ⟨s, [], rfl, rfl, hs⟩

theorem lists_of {α : Type} (p : Nat → α → List Nat → Prop) : ∀ n, (∀ i, i < n → ∃ x fs, p i x fs) → ∃ (xs : List α) (fss : List (List Nat)), xs.length = n ∧ fss.length = n ∧ ∀ i x fs, xs[i]? = some x → fss[i]? = some fs → p i x fs
  | 0, _ => ⟨[], [], rfl, rfl, fun i x fs h => by simp at h⟩
  | n + 1, h => by
    obtain ⟨xs, fss, h1, h2, h3⟩ := lists_of p n fun i hi => h i (by omega)
    obtain ⟨x, fs, hp⟩ := h n (by omega)
    refine ⟨xs ++ [x], fss ++ [fs], by simp [h1], by simp [h2], fun i y gs hy hg => ?_⟩
    by_cases hi : i < n
    · rw [List.getElem?_append_left (by omega)] at hy hg
      exact h3 i y gs hy hg
    · have hin : i = n := by have := (List.getElem?_eq_some_iff.1 hy).1; simp at this; omega
      subst hin
      rw [List.getElem?_append_right (by omega), h1] at hy
      rw [List.getElem?_append_right (by omega), h2] at hg
      simp at hy hg
      subst hy; subst hg
      exact hp

theorem Opens.slice {α : Type} [Dat α] (ht : P.underlying t = some (.slice e)) (hc : P.cellsOf e = Dat.sz α) (ho : Opens P e α) : Opens P t (List α) := fun enc w fuel cs y h => by
  rcases open_slice ht h with ⟨rfl, _⟩ | ⟨a, len, cap, m, n, DD, Pl, rfl, _, hl, hm, hmm, _, hi⟩
  · exact ⟨[], [], none, 0, 0, rfl, Sl.nil w⟩
  · have hlm : len ≤ m := by rw [hmm]; simpa using hl
    rcases Nat.eq_zero_or_pos len with h0 | h0
    · subst h0
      exact ⟨[], [], _, 0, cap, rfl, rfl, hl, hm, fun _ => rfl, fun h => absurd h (by omega)⟩
    · obtain ⟨xs, fss, h1, h2, h3⟩ := lists_of (α := α) (fun i x fs => ∃ cs', w.cells? 0 (a.add (i * Dat.sz α)) (Dat.sz α) = some cs' ∧ Dat.at_ w cs' x fs) len fun i hil => by
        obtain ⟨cs', hcs, ht'⟩ := hi i (by omega)
        rw [hc] at hcs
        obtain ⟨x, fs, ha⟩ := ho enc w _ _ _ ht'
        exact ⟨x, fs, cs', hcs, ha⟩
      have hpos : 0 < Dat.sz α := Dat.pos
      obtain ⟨cs0, hcs0, _⟩ := h3 0 _ _ (List.getElem?_eq_getElem (by omega)) (List.getElem?_eq_getElem (by omega))
      obtain ⟨_, hl0, hat0⟩ := World.cells?_some hcs0
      have hc0 := hat0 (i := 0) (by omega)
      rw [Nat.zero_mul] at hc0
      have hspot : a.spot = none := by
        have he : w.cell? ((a.add 0).add 0) = some (cs0[0]'(by omega)) := by rw [hc0]; exact List.getElem?_eq_getElem (by omega)
        simp only [Addr.add, if_true] at he
        unfold World.cell? at he
        split at he
        · split at he
          · cases he
          · rename_i hs; simpa using hs
        · cases he
      have hblk : a.block < w.heap.size := by
        have he : w.cell? ((a.add 0).add 0) = some (cs0[0]'(by omega)) := by rw [hc0]; exact List.getElem?_eq_getElem (by omega)
        have := block_lt_of_cell he
        simpa [block_add] using this
      refine ⟨xs, a.block :: fss.flatten, _, len, cap, rfl, h1, hl, hm, fun h => absurd h (by omega), fun _ => ⟨a.block, a.off, fss, ?_, rfl, by rw [h1, h2], hblk, fun k x fs hx hf => ?_⟩⟩
      · cases a; simp only at hspot; subst hspot; rfl
      · obtain ⟨cs', hcs, ha⟩ := h3 k x fs hx hf
        obtain ⟨_, hlc, hat⟩ := World.cells?_some hcs
        refine ⟨cs', fun j u hu => ?_, ha⟩
        have hj : j < Dat.sz α := by rw [← hlc]; exact (List.getElem?_eq_some_iff.1 hu).1
        have := hat (i := j) hj
        rw [hu] at this
        rw [← this]
        congr 1
        cases a
        simp only at hspot
        subst hspot
        unfold Addr.add
        by_cases hz1 : k * Dat.sz α = 0 <;> by_cases hz2 : j = 0 <;> simp [hz1, hz2, Nat.add_assoc]

theorem seg {α : Type} [Dat α] {f : Field} (ho : Opens P f.type α) (hc : P.cellsOf f.type = Dat.sz α) {H : Type} {enc : TypeId × Value → H} {w : World} {fuel o : Nat} {cs : List Value} {y : Option (DataW H × List MemPlace)}
    (hoff : f.offset = o) (h : DataW.trod enc P w 0 (fun _ => true) true fuel f.type ((cs.drop f.offset).take (P.cellsOf f.type)) = y) (hy : y.isSome = true) :
    ∃ (x : α) (bs : List Nat), Dat.at_ w ((cs.drop o).take (Dat.sz α)) x bs := by
  cases y with
  | none => cases hy
  | some y => rw [hoff, hc] at h; exact ho enc w _ _ _ h

theorem Opens.struct1 {α0 : Type} [Dat α0] {f0 : Field} (ht : P.underlying t = some (.struct #[f0])) (o0 : f0.offset = 0) (c0 : P.cellsOf f0.type = Dat.sz α0) (p0 : Opens P f0.type α0) (hc : P.cellsOf t = Dat.sz α0) : Opens P t (α0) := fun enc w fuel cs y h => by
  obtain ⟨xs, n, _, _, hlen, hxl, hg⟩ := DataW.trod_struct ht h
  have hxl' : xs.length = 1 := hxl
  obtain ⟨x0, b0, a0⟩ := seg p0 c0 o0 (hg 0 f0 rfl) (by rw [List.getElem?_eq_getElem (by omega)]; rfl)
  refine ⟨x0, b0, ?_⟩
  have e : cs = (cs.drop 0).take (Dat.sz α0) := by rw [List.drop_zero, List.take_of_length_le (by omega)]
  rw [e]; exact a0

theorem Opens.struct2 {α0 : Type} [Dat α0] {α1 : Type} [Dat α1] {f0 f1 : Field} (ht : P.underlying t = some (.struct #[f0, f1])) (o0 : f0.offset = 0) (c0 : P.cellsOf f0.type = Dat.sz α0) (p0 : Opens P f0.type α0) (o1 : f1.offset = Dat.sz α0) (c1 : P.cellsOf f1.type = Dat.sz α1) (p1 : Opens P f1.type α1) (hc : P.cellsOf t = Dat.sz α0 + Dat.sz α1) : Opens P t (α0 × α1) := fun enc w fuel cs y h => by
  obtain ⟨xs, n, _, _, hlen, hxl, hg⟩ := DataW.trod_struct ht h
  have hxl' : xs.length = 2 := hxl
  obtain ⟨x0, b0, a0⟩ := seg p0 c0 o0 (hg 0 f0 rfl) (by rw [List.getElem?_eq_getElem (by omega)]; rfl)
  obtain ⟨x1, b1, a1⟩ := seg p1 c1 o1 (hg 1 f1 rfl) (by rw [List.getElem?_eq_getElem (by omega)]; rfl)
  rw [hc] at hlen
  have e : cs.drop 0 = (cs.drop (0)).take (Dat.sz α0) ++ ((cs.drop (Dat.sz α0)).take (Dat.sz α1)) := by
    have s1 : cs.drop (Dat.sz α0) = (cs.drop (Dat.sz α0)).take (Dat.sz α1) := by rw [List.take_of_length_le (by rw [List.length_drop]; omega)]
    have s0 : cs.drop (0) = (cs.drop (0)).take (Dat.sz α0) ++ cs.drop (Dat.sz α0) := by
      have := (List.take_append_drop (Dat.sz α0) (cs.drop (0))).symm
      rwa [List.drop_drop, Nat.zero_add] at this
    rw [s1] at s0
    exact s0
  refine ⟨(x0, x1), b0 ++ (b1), ?_⟩
  rw [List.drop_zero] at e
  exact ⟨_, _, _, _, e, rfl, a0, a1⟩

theorem Opens.struct3 {α0 : Type} [Dat α0] {α1 : Type} [Dat α1] {α2 : Type} [Dat α2] {f0 f1 f2 : Field} (ht : P.underlying t = some (.struct #[f0, f1, f2])) (o0 : f0.offset = 0) (c0 : P.cellsOf f0.type = Dat.sz α0) (p0 : Opens P f0.type α0) (o1 : f1.offset = Dat.sz α0) (c1 : P.cellsOf f1.type = Dat.sz α1) (p1 : Opens P f1.type α1) (o2 : f2.offset = Dat.sz α0 + Dat.sz α1) (c2 : P.cellsOf f2.type = Dat.sz α2) (p2 : Opens P f2.type α2) (hc : P.cellsOf t = Dat.sz α0 + Dat.sz α1 + Dat.sz α2) : Opens P t (α0 × α1 × α2) := fun enc w fuel cs y h => by
  obtain ⟨xs, n, _, _, hlen, hxl, hg⟩ := DataW.trod_struct ht h
  have hxl' : xs.length = 3 := hxl
  obtain ⟨x0, b0, a0⟩ := seg p0 c0 o0 (hg 0 f0 rfl) (by rw [List.getElem?_eq_getElem (by omega)]; rfl)
  obtain ⟨x1, b1, a1⟩ := seg p1 c1 o1 (hg 1 f1 rfl) (by rw [List.getElem?_eq_getElem (by omega)]; rfl)
  obtain ⟨x2, b2, a2⟩ := seg p2 c2 o2 (hg 2 f2 rfl) (by rw [List.getElem?_eq_getElem (by omega)]; rfl)
  rw [hc] at hlen
  have e : cs.drop 0 = (cs.drop (0)).take (Dat.sz α0) ++ ((cs.drop (Dat.sz α0)).take (Dat.sz α1) ++ ((cs.drop (Dat.sz α0 + Dat.sz α1)).take (Dat.sz α2))) := by
    have s2 : cs.drop (Dat.sz α0 + Dat.sz α1) = (cs.drop (Dat.sz α0 + Dat.sz α1)).take (Dat.sz α2) := by rw [List.take_of_length_le (by rw [List.length_drop]; omega)]
    have s1 : cs.drop (Dat.sz α0) = (cs.drop (Dat.sz α0)).take (Dat.sz α1) ++ cs.drop (Dat.sz α0 + Dat.sz α1) := by
      have := (List.take_append_drop (Dat.sz α1) (cs.drop (Dat.sz α0))).symm
      rwa [List.drop_drop] at this
    have s0 : cs.drop (0) = (cs.drop (0)).take (Dat.sz α0) ++ cs.drop (Dat.sz α0) := by
      have := (List.take_append_drop (Dat.sz α0) (cs.drop (0))).symm
      rwa [List.drop_drop, Nat.zero_add] at this
    rw [s1, s2] at s0
    exact s0
  refine ⟨(x0, x1, x2), b0 ++ (b1 ++ (b2)), ?_⟩
  rw [List.drop_zero] at e
  exact ⟨_, _, _, _, e, rfl, a0, ⟨_, _, _, _, rfl, rfl, a1, a2⟩⟩

theorem Opens.struct4 {α0 : Type} [Dat α0] {α1 : Type} [Dat α1] {α2 : Type} [Dat α2] {α3 : Type} [Dat α3] {f0 f1 f2 f3 : Field} (ht : P.underlying t = some (.struct #[f0, f1, f2, f3])) (o0 : f0.offset = 0) (c0 : P.cellsOf f0.type = Dat.sz α0) (p0 : Opens P f0.type α0) (o1 : f1.offset = Dat.sz α0) (c1 : P.cellsOf f1.type = Dat.sz α1) (p1 : Opens P f1.type α1) (o2 : f2.offset = Dat.sz α0 + Dat.sz α1) (c2 : P.cellsOf f2.type = Dat.sz α2) (p2 : Opens P f2.type α2) (o3 : f3.offset = Dat.sz α0 + Dat.sz α1 + Dat.sz α2) (c3 : P.cellsOf f3.type = Dat.sz α3) (p3 : Opens P f3.type α3) (hc : P.cellsOf t = Dat.sz α0 + Dat.sz α1 + Dat.sz α2 + Dat.sz α3) : Opens P t (α0 × α1 × α2 × α3) := fun enc w fuel cs y h => by
  obtain ⟨xs, n, _, _, hlen, hxl, hg⟩ := DataW.trod_struct ht h
  have hxl' : xs.length = 4 := hxl
  obtain ⟨x0, b0, a0⟩ := seg p0 c0 o0 (hg 0 f0 rfl) (by rw [List.getElem?_eq_getElem (by omega)]; rfl)
  obtain ⟨x1, b1, a1⟩ := seg p1 c1 o1 (hg 1 f1 rfl) (by rw [List.getElem?_eq_getElem (by omega)]; rfl)
  obtain ⟨x2, b2, a2⟩ := seg p2 c2 o2 (hg 2 f2 rfl) (by rw [List.getElem?_eq_getElem (by omega)]; rfl)
  obtain ⟨x3, b3, a3⟩ := seg p3 c3 o3 (hg 3 f3 rfl) (by rw [List.getElem?_eq_getElem (by omega)]; rfl)
  rw [hc] at hlen
  have e : cs.drop 0 = (cs.drop (0)).take (Dat.sz α0) ++ ((cs.drop (Dat.sz α0)).take (Dat.sz α1) ++ ((cs.drop (Dat.sz α0 + Dat.sz α1)).take (Dat.sz α2) ++ ((cs.drop (Dat.sz α0 + Dat.sz α1 + Dat.sz α2)).take (Dat.sz α3)))) := by
    have s3 : cs.drop (Dat.sz α0 + Dat.sz α1 + Dat.sz α2) = (cs.drop (Dat.sz α0 + Dat.sz α1 + Dat.sz α2)).take (Dat.sz α3) := by rw [List.take_of_length_le (by rw [List.length_drop]; omega)]
    have s2 : cs.drop (Dat.sz α0 + Dat.sz α1) = (cs.drop (Dat.sz α0 + Dat.sz α1)).take (Dat.sz α2) ++ cs.drop (Dat.sz α0 + Dat.sz α1 + Dat.sz α2) := by
      have := (List.take_append_drop (Dat.sz α2) (cs.drop (Dat.sz α0 + Dat.sz α1))).symm
      rwa [List.drop_drop] at this
    have s1 : cs.drop (Dat.sz α0) = (cs.drop (Dat.sz α0)).take (Dat.sz α1) ++ cs.drop (Dat.sz α0 + Dat.sz α1) := by
      have := (List.take_append_drop (Dat.sz α1) (cs.drop (Dat.sz α0))).symm
      rwa [List.drop_drop] at this
    have s0 : cs.drop (0) = (cs.drop (0)).take (Dat.sz α0) ++ cs.drop (Dat.sz α0) := by
      have := (List.take_append_drop (Dat.sz α0) (cs.drop (0))).symm
      rwa [List.drop_drop, Nat.zero_add] at this
    rw [s1, s2, s3] at s0
    exact s0
  refine ⟨(x0, x1, x2, x3), b0 ++ (b1 ++ (b2 ++ (b3))), ?_⟩
  rw [List.drop_zero] at e
  exact ⟨_, _, _, _, e, rfl, a0, ⟨_, _, _, _, rfl, rfl, a1, ⟨_, _, _, _, rfl, rfl, a2, a3⟩⟩⟩

theorem Opens.struct5 {α0 : Type} [Dat α0] {α1 : Type} [Dat α1] {α2 : Type} [Dat α2] {α3 : Type} [Dat α3] {α4 : Type} [Dat α4] {f0 f1 f2 f3 f4 : Field} (ht : P.underlying t = some (.struct #[f0, f1, f2, f3, f4])) (o0 : f0.offset = 0) (c0 : P.cellsOf f0.type = Dat.sz α0) (p0 : Opens P f0.type α0) (o1 : f1.offset = Dat.sz α0) (c1 : P.cellsOf f1.type = Dat.sz α1) (p1 : Opens P f1.type α1) (o2 : f2.offset = Dat.sz α0 + Dat.sz α1) (c2 : P.cellsOf f2.type = Dat.sz α2) (p2 : Opens P f2.type α2) (o3 : f3.offset = Dat.sz α0 + Dat.sz α1 + Dat.sz α2) (c3 : P.cellsOf f3.type = Dat.sz α3) (p3 : Opens P f3.type α3) (o4 : f4.offset = Dat.sz α0 + Dat.sz α1 + Dat.sz α2 + Dat.sz α3) (c4 : P.cellsOf f4.type = Dat.sz α4) (p4 : Opens P f4.type α4) (hc : P.cellsOf t = Dat.sz α0 + Dat.sz α1 + Dat.sz α2 + Dat.sz α3 + Dat.sz α4) : Opens P t (α0 × α1 × α2 × α3 × α4) := fun enc w fuel cs y h => by
  obtain ⟨xs, n, _, _, hlen, hxl, hg⟩ := DataW.trod_struct ht h
  have hxl' : xs.length = 5 := hxl
  obtain ⟨x0, b0, a0⟩ := seg p0 c0 o0 (hg 0 f0 rfl) (by rw [List.getElem?_eq_getElem (by omega)]; rfl)
  obtain ⟨x1, b1, a1⟩ := seg p1 c1 o1 (hg 1 f1 rfl) (by rw [List.getElem?_eq_getElem (by omega)]; rfl)
  obtain ⟨x2, b2, a2⟩ := seg p2 c2 o2 (hg 2 f2 rfl) (by rw [List.getElem?_eq_getElem (by omega)]; rfl)
  obtain ⟨x3, b3, a3⟩ := seg p3 c3 o3 (hg 3 f3 rfl) (by rw [List.getElem?_eq_getElem (by omega)]; rfl)
  obtain ⟨x4, b4, a4⟩ := seg p4 c4 o4 (hg 4 f4 rfl) (by rw [List.getElem?_eq_getElem (by omega)]; rfl)
  rw [hc] at hlen
  have e : cs.drop 0 = (cs.drop (0)).take (Dat.sz α0) ++ ((cs.drop (Dat.sz α0)).take (Dat.sz α1) ++ ((cs.drop (Dat.sz α0 + Dat.sz α1)).take (Dat.sz α2) ++ ((cs.drop (Dat.sz α0 + Dat.sz α1 + Dat.sz α2)).take (Dat.sz α3) ++ ((cs.drop (Dat.sz α0 + Dat.sz α1 + Dat.sz α2 + Dat.sz α3)).take (Dat.sz α4))))) := by
    have s4 : cs.drop (Dat.sz α0 + Dat.sz α1 + Dat.sz α2 + Dat.sz α3) = (cs.drop (Dat.sz α0 + Dat.sz α1 + Dat.sz α2 + Dat.sz α3)).take (Dat.sz α4) := by rw [List.take_of_length_le (by rw [List.length_drop]; omega)]
    have s3 : cs.drop (Dat.sz α0 + Dat.sz α1 + Dat.sz α2) = (cs.drop (Dat.sz α0 + Dat.sz α1 + Dat.sz α2)).take (Dat.sz α3) ++ cs.drop (Dat.sz α0 + Dat.sz α1 + Dat.sz α2 + Dat.sz α3) := by
      have := (List.take_append_drop (Dat.sz α3) (cs.drop (Dat.sz α0 + Dat.sz α1 + Dat.sz α2))).symm
      rwa [List.drop_drop] at this
    have s2 : cs.drop (Dat.sz α0 + Dat.sz α1) = (cs.drop (Dat.sz α0 + Dat.sz α1)).take (Dat.sz α2) ++ cs.drop (Dat.sz α0 + Dat.sz α1 + Dat.sz α2) := by
      have := (List.take_append_drop (Dat.sz α2) (cs.drop (Dat.sz α0 + Dat.sz α1))).symm
      rwa [List.drop_drop] at this
    have s1 : cs.drop (Dat.sz α0) = (cs.drop (Dat.sz α0)).take (Dat.sz α1) ++ cs.drop (Dat.sz α0 + Dat.sz α1) := by
      have := (List.take_append_drop (Dat.sz α1) (cs.drop (Dat.sz α0))).symm
      rwa [List.drop_drop] at this
    have s0 : cs.drop (0) = (cs.drop (0)).take (Dat.sz α0) ++ cs.drop (Dat.sz α0) := by
      have := (List.take_append_drop (Dat.sz α0) (cs.drop (0))).symm
      rwa [List.drop_drop, Nat.zero_add] at this
    rw [s1, s2, s3, s4] at s0
    exact s0
  refine ⟨(x0, x1, x2, x3, x4), b0 ++ (b1 ++ (b2 ++ (b3 ++ (b4)))), ?_⟩
  rw [List.drop_zero] at e
  exact ⟨_, _, _, _, e, rfl, a0, ⟨_, _, _, _, rfl, rfl, a1, ⟨_, _, _, _, rfl, rfl, a2, ⟨_, _, _, _, rfl, rfl, a3, a4⟩⟩⟩⟩


theorem Opens.via {α β : Type} [Dat β] {f : α → β} (ho : Opens P t β) (hs : ∀ b, ∃ a, f a = b) : @Opens P t α (Dat.via f) := fun enc w fuel cs y h => by
  obtain ⟨x, bs, ha⟩ := ho enc w fuel cs y h
  obtain ⟨a, rfl⟩ := hs x
  exact ⟨a, bs, ha⟩

theorem Opens.agg {α : Type} [Dat α] (ho : Opens P t α) {fs : Array Field} (ht : P.underlying t = some (.struct fs)) {H : Type} {enc : TypeId × Value → H} {w : World} {r : Reach} {b0 : Nat} {v : Value} {d : DataW H} {p : List MemPlace}
    (hv : Value.okWide P w r b0 t v) (h : DataW.Trod enc P w 0 (fun _ => true) true t v d p) : ∃ (x : α) (bs : List Nat), Agg w v x bs := by
  obtain ⟨cs, rfl, _⟩ := okWide_struct ht hv
  obtain ⟨fuel, hf⟩ := h
  obtain ⟨x, bs, ha⟩ := ho enc w _ _ _ hf
  exact ⟨x, bs, _, by simp [Value.cells], ha⟩

theorem Opens.sl {α : Type} [Dat α] (ho : Opens P t (List α)) (ht : P.underlying t = some (.slice e)) {H : Type} {enc : TypeId × Value → H} {w : World} {r : Reach} {b0 : Nat} {v : Value} {d : DataW H} {p : List MemPlace}
    (hv : Value.okWide P w r b0 t v) (h : DataW.Trod enc P w 0 (fun _ => true) true t v d p) : ∃ (A : Option Addr) (n c : Nat) (xs : List α) (bs : List Nat), v = .slice A n c ∧ Sl w A n c xs bs := by
  obtain ⟨A, n, c, rfl⟩ := okWide_slice ht hv
  obtain ⟨fuel, hf⟩ := h
  obtain ⟨xs, bs, A', n', c', hcs, hs⟩ := ho enc w _ _ _ hf
  simp [Value.cells] at hcs
  obtain ⟨rfl, rfl, rfl⟩ := hcs
  exact ⟨_, _, _, xs, bs, rfl, hs⟩
end
end Go.XB

/- The types of the laws' arguments, opened. Written by gen_open.py. -/
namespace Go.Proofs.YthlpjpcnpcclhaaGreat.X
open Go.XB
theorem oInt : Opens Tryz.prog 3 Int := Opens.int Tryz.underlying3
theorem oBool : Opens Tryz.prog 4 Bool := Opens.bool Tryz.underlying4
theorem oLInt : Opens Tryz.prog 31 (List Int) := Opens.slice Tryz.underlying31 (by kernel_rfl) oInt
theorem oTBigInt : Opens Tryz.prog 33 TBigInt := Opens.via (Opens.struct2 Tryz.underlying33 rfl (by kernel_rfl) oBool rfl (by kernel_rfl) oLInt (by kernel_rfl)) (fun b => ⟨⟨b.1, b.2⟩, rfl⟩)
theorem oTRat : Opens Tryz.prog 35 TRat := Opens.via (Opens.struct2 Tryz.underlying35 rfl (by kernel_rfl) oTBigInt rfl (by kernel_rfl) oLInt (by kernel_rfl)) (fun b => ⟨⟨b.1, b.2⟩, rfl⟩)
theorem oLTRat : Opens Tryz.prog 30 (List TRat) := Opens.slice Tryz.underlying30 (by kernel_rfl) oTRat
theorem oTPoint : Opens Tryz.prog 54 TPoint := Opens.via (Opens.struct2 Tryz.underlying54 rfl (by kernel_rfl) oTRat rfl (by kernel_rfl) oTRat (by kernel_rfl)) (fun b => ⟨⟨b.1, b.2⟩, rfl⟩)
theorem oLTPoint : Opens Tryz.prog 22 (List TPoint) := Opens.slice Tryz.underlying22 (by kernel_rfl) oTPoint
end Go.Proofs.YthlpjpcnpcclhaaGreat.X
