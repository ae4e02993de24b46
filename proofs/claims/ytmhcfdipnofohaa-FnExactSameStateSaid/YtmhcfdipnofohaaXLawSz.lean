/- The budget of the laws' arguments: laws.sz... Written by gen_law.py. -/
import Derived.Test.YtmhcfdipnofohaaRows
import Derived.Test.YtmhcfdipnofohaaXCopy
import Derived.Test.YtmhcfdipnofohaaXRegion
import Derived.Test.YtmhcfdipnofohaaXSize
import Derived.WalkLawsBesides
import Derived.ProofKit
namespace Go.Proofs.Ytmhcfdipnofohaa.X
open Go.RowKit Go.XB
attribute [local go_sem] fillBy opAt deps depOf Region.wanted yielded
attribute [local simp] deps depOf MP.eq Facts
set_option maxHeartbeats 400000 in
theorem laws_szBigInt (v : Value) (x : TBigInt) (bs : List Nat) (left : Int) (w : World) (hx : Agg w v x bs) (h0 : 0 ≤ left) (h1 : left ≤ 1048576) :
    Calls Try.prog 32 #[v, .int .i64 left] w (Gives w (.int .i64 (minus left x.cnt))) := by
  obtain ⟨A1, nA1, cA1, sA1, rfl, rfl, w1⟩ := TBigInt.agg hx
  have W1 := hid w1
  clear hx w1
  unfold TBigInt.cnt
  have h0a := h0; have h0b := h1
  rcases minus_cases left (x.mag.length) with ⟨k0, e0, l0⟩ | ⟨k0, e0, l0⟩
  · have E0 := hid e0
    have L0 := hid l0
    clear e0 l0
    go_enter Try.func32, Try.ntmps32
    go_wp2_with fail
    refine (laws_szIntS _ _ _ x.mag _ left _ (Sl.below W1.out (by (repeat (first | (with_reducible exact Below.refl _ _) | ((with_reducible refine Below.set ?_ ?_ _); rotate_left; (simp <;> omega)) | (with_reducible refine Below.box_ ?_ _) | (with_reducible refine Below.next ?_ (by assumption)))))) h0a h0b).mono ?_
    rintro e u0 ⟨rfl, hb0⟩
    obtain ⟨hc0, hf0⟩ := bcell hb0
    have hz0 : w.heap.size < u0.heap.size := by have := hb0.size; (try simp at this); omega
    go_wp2
    go_ret
    exact ⟨by have := L0.out; rw [minus_neg (show left < (((x.mag.length) : Nat) : Int) by omega)]; rfl, by (repeat (first | (with_reducible exact Below.refl _ _) | ((with_reducible refine Below.set ?_ ?_ _); rotate_left; (simp <;> omega)) | (with_reducible refine Below.box_ ?_ _) | (with_reducible refine Below.next ?_ (by assumption))))⟩
  · have E0 := hid e0
    have L0 := hid l0
    have h1a : 0 ≤ minus left (x.mag.length) := k0
    have h1b : minus left (x.mag.length) ≤ 1048576 := by omega
    clear e0 l0
    go_enter Try.func32, Try.ntmps32
    go_wp2_with fail
    refine (laws_szIntS _ _ _ x.mag _ left _ (Sl.below W1.out (by (repeat (first | (with_reducible exact Below.refl _ _) | ((with_reducible refine Below.set ?_ ?_ _); rotate_left; (simp <;> omega)) | (with_reducible refine Below.box_ ?_ _) | (with_reducible refine Below.next ?_ (by assumption)))))) h0a h0b).mono ?_
    rintro e u0 ⟨rfl, hb0⟩
    obtain ⟨hc0, hf0⟩ := bcell hb0
    have hz0 : w.heap.size < u0.heap.size := by have := hb0.size; (try simp at this); omega
    go_wp2
    go_ret
    have L0' := L0.out; have E0' := E0.out
    have hm := minus_pos (left := left) (n := (x.mag.length)) (by omega)
    exact ⟨ret_int (by omega), by (repeat (first | (with_reducible exact Below.refl _ _) | ((with_reducible refine Below.set ?_ ?_ _); rotate_left; (simp <;> omega)) | (with_reducible refine Below.box_ ?_ _) | (with_reducible refine Below.next ?_ (by assumption))))⟩
set_option maxHeartbeats 400000 in
theorem laws_szRat (v : Value) (x : TRat) (bs : List Nat) (left : Int) (w : World) (hx : Agg w v x bs) (h0 : 0 ≤ left) (h1 : left ≤ 1048576) :
    Calls Try.prog 18 #[v, .int .i64 left] w (Gives w (.int .i64 (minus left x.cnt))) := by
  obtain ⟨A1, nA1, cA1, sA1, A2, nA2, cA2, sA2, rfl, rfl, w1, w2⟩ := TRat.agg hx
  have W1 := hid w1
  have W2 := hid w2
  clear hx w1 w2
  unfold TRat.cnt
  have h0a := h0; have h0b := h1
  rcases minus_cases left (x.num.cnt) with ⟨k0, e0, l0⟩ | ⟨k0, e0, l0⟩
  · have E0 := hid e0
    have L0 := hid l0
    clear e0 l0
    go_enter Try.func18, Try.ntmps18
    go_wp2_with fail
    refine (laws_szBigInt _ x.num _ left _ (TBigInt.mkAgg (Sl.below W1.out (by (repeat (first | (with_reducible exact Below.refl _ _) | ((with_reducible refine Below.set ?_ ?_ _); rotate_left; (simp <;> omega)) | (with_reducible refine Below.box_ ?_ _) | (with_reducible refine Below.next ?_ (by assumption))))))) h0a h0b).mono ?_
    rintro e u0 ⟨rfl, hb0⟩
    obtain ⟨hc0, hf0⟩ := bcell hb0
    have hz0 : w.heap.size < u0.heap.size := by have := hb0.size; (try simp at this); omega
    go_wp2
    go_ret
    exact ⟨by have := L0.out; rw [minus_neg (show left < (((x.num.cnt) + (x.den.length) : Nat) : Int) by omega)]; rfl, by (repeat (first | (with_reducible exact Below.refl _ _) | ((with_reducible refine Below.set ?_ ?_ _); rotate_left; (simp <;> omega)) | (with_reducible refine Below.box_ ?_ _) | (with_reducible refine Below.next ?_ (by assumption))))⟩
  · have E0 := hid e0
    have L0 := hid l0
    have h1a : 0 ≤ minus left (x.num.cnt) := k0
    have h1b : minus left (x.num.cnt) ≤ 1048576 := by omega
    clear e0 l0
    rcases minus_cases (minus left (x.num.cnt)) (x.den.length) with ⟨k1, e1, l1⟩ | ⟨k1, e1, l1⟩
    · have E1 := hid e1
      have L1 := hid l1
      clear e1 l1
      go_enter Try.func18, Try.ntmps18
      go_wp2_with fail
      refine (laws_szBigInt _ x.num _ left _ (TBigInt.mkAgg (Sl.below W1.out (by (repeat (first | (with_reducible exact Below.refl _ _) | ((with_reducible refine Below.set ?_ ?_ _); rotate_left; (simp <;> omega)) | (with_reducible refine Below.box_ ?_ _) | (with_reducible refine Below.next ?_ (by assumption))))))) h0a h0b).mono ?_
      rintro e u0 ⟨rfl, hb0⟩
      obtain ⟨hc0, hf0⟩ := bcell hb0
      have hz0 : w.heap.size < u0.heap.size := by have := hb0.size; (try simp at this); omega
      go_wp2_with fail
      refine (laws_szIntS _ _ _ x.den _ (minus left (x.num.cnt)) _ (Sl.below W2.out (by (repeat (first | (with_reducible exact Below.refl _ _) | ((with_reducible refine Below.set ?_ ?_ _); rotate_left; (simp <;> omega)) | (with_reducible refine Below.box_ ?_ _) | (with_reducible refine Below.next ?_ (by assumption)))))) h1a h1b).mono ?_
      rintro e u1 ⟨rfl, hb1⟩
      obtain ⟨hc1, hf1⟩ := bcell hb1
      have hz1 : w.heap.size < u1.heap.size := by have := hb1.size; (try simp at this); omega
      go_wp2
      go_ret
      exact ⟨by have := L1.out; have := E0.out; rw [minus_neg (show left < (((x.num.cnt) + (x.den.length) : Nat) : Int) by omega)]; rfl, by (repeat (first | (with_reducible exact Below.refl _ _) | ((with_reducible refine Below.set ?_ ?_ _); rotate_left; (simp <;> omega)) | (with_reducible refine Below.box_ ?_ _) | (with_reducible refine Below.next ?_ (by assumption))))⟩
    · have E1 := hid e1
      have L1 := hid l1
      have h2a : 0 ≤ minus (minus left (x.num.cnt)) (x.den.length) := k1
      have h2b : minus (minus left (x.num.cnt)) (x.den.length) ≤ 1048576 := by omega
      clear e1 l1
      go_enter Try.func18, Try.ntmps18
      go_wp2_with fail
      refine (laws_szBigInt _ x.num _ left _ (TBigInt.mkAgg (Sl.below W1.out (by (repeat (first | (with_reducible exact Below.refl _ _) | ((with_reducible refine Below.set ?_ ?_ _); rotate_left; (simp <;> omega)) | (with_reducible refine Below.box_ ?_ _) | (with_reducible refine Below.next ?_ (by assumption))))))) h0a h0b).mono ?_
      rintro e u0 ⟨rfl, hb0⟩
      obtain ⟨hc0, hf0⟩ := bcell hb0
      have hz0 : w.heap.size < u0.heap.size := by have := hb0.size; (try simp at this); omega
      go_wp2_with fail
      refine (laws_szIntS _ _ _ x.den _ (minus left (x.num.cnt)) _ (Sl.below W2.out (by (repeat (first | (with_reducible exact Below.refl _ _) | ((with_reducible refine Below.set ?_ ?_ _); rotate_left; (simp <;> omega)) | (with_reducible refine Below.box_ ?_ _) | (with_reducible refine Below.next ?_ (by assumption)))))) h1a h1b).mono ?_
      rintro e u1 ⟨rfl, hb1⟩
      obtain ⟨hc1, hf1⟩ := bcell hb1
      have hz1 : w.heap.size < u1.heap.size := by have := hb1.size; (try simp at this); omega
      go_wp2
      go_ret
      have L0' := L0.out; have E0' := E0.out
      have L1' := L1.out; have E1' := E1.out
      have hm := minus_pos (left := left) (n := (x.num.cnt) + (x.den.length)) (by omega)
      exact ⟨ret_int (by omega), by (repeat (first | (with_reducible exact Below.refl _ _) | ((with_reducible refine Below.set ?_ ?_ _); rotate_left; (simp <;> omega)) | (with_reducible refine Below.box_ ?_ _) | (with_reducible refine Below.next ?_ (by assumption))))⟩
set_option maxHeartbeats 400000 in
theorem laws_szRatS (A : Option Addr) (n c : Nat) (xs : List TRat) (bs : List Nat) (left : Int) (w : World) (hx : Sl w A n c xs bs) (h0 : 0 ≤ left) (h1 : left ≤ 1048576) :
    Calls Try.prog 41 #[.slice A n c, .int .i64 left] w (Gives w (.int .i64 (minus left (cntL TRat.cnt xs)))) := by
  have hn : n ≤ maxLen := Nat.le_trans hx.2.1 hx.2.2.1
  unfold maxLen at hn
  have HL := hid hx.1
  have HX := hid hx
  clear hx
  unfold cntL
  by_cases h : left - n < 0
  · go_enter Try.func41, Try.ntmps41
    go_wp2
    go_ret
    exact ⟨ret_int (by have := HL.out; rw [minus_neg (by omega)]), Below.refl _ _⟩
  · go_enter Try.func41, Try.ntmps41
    go_wp2
    go_loopw [1, 5] (fun l i wr => ∃ (k : Nat) (r : Int), k ≤ n ∧ i = .int .i64 k ∧ l = .int .i64 r ∧ 0 ≤ r ∧ r ≤ 1048576 ∧ Hid (r = left - n - (((xs.take k).map TRat.cnt).sum : Nat)) ∧ Below w.heap.size w wr) (fun l i wr => n - (intOf i).toNat)
    case atStart => exact ⟨0, _, Nat.zero_le _, rfl, rfl, by omega, by omega, (show _ = _ by simp), Below.refl _ _⟩
    case round =>
      obtain ⟨k, r, hk, rfl, rfl, hr0, hr1, hr, hb⟩ := hrel
      by_cases hlt : k < n
      · obtain ⟨be, offe, x, A1, nA1, cA1, sA1, A2, nA2, cA2, sA2, rfl, hble, hxke, ee0, ee1, ee2, e1, e2, hmeme⟩ := TRat.elem (Sl.below HX.out hb) hlt
        have HXk := hid hxke
        have W1 := hid e1
        have W2 := hid e2
        clear hxke e1 e2 hmeme
        rcases minus_cases r x.cnt with ⟨k1, e1, l1⟩ | ⟨k1, e1, l1⟩
        · have E1 := hid e1; have L1 := hid l1
          clear e1 l1
          go_wp2_with fail
          refine (laws_szRat _ x _ r _ (TRat.mkAgg W1.out W2.out) hr0 hr1).mono ?_
          rintro e u ⟨rfl, hbu⟩
          go_wp2
          go_ret
          refine ⟨ret_int ?_, Below.next hb hbu⟩
          rw [minus_neg]
          have hs := sum_take_le TRat.cnt HXk.out
          have := hr.out; have := L1.out; have := HL.out
          omega
        · have E1 := hid e1; have L1 := hid l1
          clear e1 l1
          have hle : minus r x.cnt ≤ 1048576 := by have := E1.out; omega
          go_wp2_with fail
          refine (laws_szRat _ x _ r _ (TRat.mkAgg W1.out W2.out) hr0 hr1).mono ?_
          rintro e u ⟨rfl, hbu⟩
          go_wp2
          go_roundw
          case rel => exact ⟨k + 1, _, by omega, by go_num, rfl, k1, hle, (show _ = _ by have hs := sum_take_step TRat.cnt HXk.out; have := hr.out; have := E1.out; omega), Below.next hb hbu⟩
          case measure => simp [intOf]; omega
      · obtain rfl : k = n := by omega
        go_wp2
        go_ret
        refine ⟨ret_int ?_, hb⟩
        have hr' := hr.out
        rw [List.take_of_length_le (Nat.le_of_eq HL.out)] at hr'
        rw [minus_pos (by have := HL.out; omega), hr']
        have := HL.out; omega
set_option maxHeartbeats 400000 in
theorem laws_szPoint (v : Value) (x : TPoint) (bs : List Nat) (left : Int) (w : World) (hx : Agg w v x bs) (h0 : 0 ≤ left) (h1 : left ≤ 1048576) :
    Calls Try.prog 61 #[v, .int .i64 left] w (Gives w (.int .i64 (minus left x.cnt))) := by
  obtain ⟨A1, nA1, cA1, sA1, A2, nA2, cA2, sA2, A4, nA4, cA4, sA4, A5, nA5, cA5, sA5, rfl, rfl, w1, w2, w4, w5⟩ := TPoint.agg hx
  have W1 := hid w1
  have W2 := hid w2
  have W4 := hid w4
  have W5 := hid w5
  clear hx w1 w2 w4 w5
  unfold TPoint.cnt
  have h0a := h0; have h0b := h1
  rcases minus_cases left (x.x.cnt) with ⟨k0, e0, l0⟩ | ⟨k0, e0, l0⟩
  · have E0 := hid e0
    have L0 := hid l0
    clear e0 l0
    go_enter Try.func61, Try.ntmps61
    go_wp2_with fail
    refine (laws_szRat _ x.x _ left _ (TRat.mkAgg (Sl.below W1.out (by (repeat (first | (with_reducible exact Below.refl _ _) | ((with_reducible refine Below.set ?_ ?_ _); rotate_left; (simp <;> omega)) | (with_reducible refine Below.box_ ?_ _) | (with_reducible refine Below.next ?_ (by assumption)))))) (Sl.below W2.out (by (repeat (first | (with_reducible exact Below.refl _ _) | ((with_reducible refine Below.set ?_ ?_ _); rotate_left; (simp <;> omega)) | (with_reducible refine Below.box_ ?_ _) | (with_reducible refine Below.next ?_ (by assumption))))))) h0a h0b).mono ?_
    rintro e u0 ⟨rfl, hb0⟩
    obtain ⟨hc0, hf0⟩ := bcell hb0
    have hz0 : w.heap.size < u0.heap.size := by have := hb0.size; (try simp at this); omega
    go_wp2
    go_ret
    exact ⟨by have := L0.out; rw [minus_neg (show left < (((x.x.cnt) + (x.y.cnt) : Nat) : Int) by omega)]; rfl, by (repeat (first | (with_reducible exact Below.refl _ _) | ((with_reducible refine Below.set ?_ ?_ _); rotate_left; (simp <;> omega)) | (with_reducible refine Below.box_ ?_ _) | (with_reducible refine Below.next ?_ (by assumption))))⟩
  · have E0 := hid e0
    have L0 := hid l0
    have h1a : 0 ≤ minus left (x.x.cnt) := k0
    have h1b : minus left (x.x.cnt) ≤ 1048576 := by omega
    clear e0 l0
    rcases minus_cases (minus left (x.x.cnt)) (x.y.cnt) with ⟨k1, e1, l1⟩ | ⟨k1, e1, l1⟩
    · have E1 := hid e1
      have L1 := hid l1
      clear e1 l1
      go_enter Try.func61, Try.ntmps61
      go_wp2_with fail
      refine (laws_szRat _ x.x _ left _ (TRat.mkAgg (Sl.below W1.out (by (repeat (first | (with_reducible exact Below.refl _ _) | ((with_reducible refine Below.set ?_ ?_ _); rotate_left; (simp <;> omega)) | (with_reducible refine Below.box_ ?_ _) | (with_reducible refine Below.next ?_ (by assumption)))))) (Sl.below W2.out (by (repeat (first | (with_reducible exact Below.refl _ _) | ((with_reducible refine Below.set ?_ ?_ _); rotate_left; (simp <;> omega)) | (with_reducible refine Below.box_ ?_ _) | (with_reducible refine Below.next ?_ (by assumption))))))) h0a h0b).mono ?_
      rintro e u0 ⟨rfl, hb0⟩
      obtain ⟨hc0, hf0⟩ := bcell hb0
      have hz0 : w.heap.size < u0.heap.size := by have := hb0.size; (try simp at this); omega
      go_wp2_with fail
      refine (laws_szRat _ x.y _ (minus left (x.x.cnt)) _ (TRat.mkAgg (Sl.below W4.out (by (repeat (first | (with_reducible exact Below.refl _ _) | ((with_reducible refine Below.set ?_ ?_ _); rotate_left; (simp <;> omega)) | (with_reducible refine Below.box_ ?_ _) | (with_reducible refine Below.next ?_ (by assumption)))))) (Sl.below W5.out (by (repeat (first | (with_reducible exact Below.refl _ _) | ((with_reducible refine Below.set ?_ ?_ _); rotate_left; (simp <;> omega)) | (with_reducible refine Below.box_ ?_ _) | (with_reducible refine Below.next ?_ (by assumption))))))) h1a h1b).mono ?_
      rintro e u1 ⟨rfl, hb1⟩
      obtain ⟨hc1, hf1⟩ := bcell hb1
      have hz1 : w.heap.size < u1.heap.size := by have := hb1.size; (try simp at this); omega
      go_wp2
      go_ret
      exact ⟨by have := L1.out; have := E0.out; rw [minus_neg (show left < (((x.x.cnt) + (x.y.cnt) : Nat) : Int) by omega)]; rfl, by (repeat (first | (with_reducible exact Below.refl _ _) | ((with_reducible refine Below.set ?_ ?_ _); rotate_left; (simp <;> omega)) | (with_reducible refine Below.box_ ?_ _) | (with_reducible refine Below.next ?_ (by assumption))))⟩
    · have E1 := hid e1
      have L1 := hid l1
      have h2a : 0 ≤ minus (minus left (x.x.cnt)) (x.y.cnt) := k1
      have h2b : minus (minus left (x.x.cnt)) (x.y.cnt) ≤ 1048576 := by omega
      clear e1 l1
      go_enter Try.func61, Try.ntmps61
      go_wp2_with fail
      refine (laws_szRat _ x.x _ left _ (TRat.mkAgg (Sl.below W1.out (by (repeat (first | (with_reducible exact Below.refl _ _) | ((with_reducible refine Below.set ?_ ?_ _); rotate_left; (simp <;> omega)) | (with_reducible refine Below.box_ ?_ _) | (with_reducible refine Below.next ?_ (by assumption)))))) (Sl.below W2.out (by (repeat (first | (with_reducible exact Below.refl _ _) | ((with_reducible refine Below.set ?_ ?_ _); rotate_left; (simp <;> omega)) | (with_reducible refine Below.box_ ?_ _) | (with_reducible refine Below.next ?_ (by assumption))))))) h0a h0b).mono ?_
      rintro e u0 ⟨rfl, hb0⟩
      obtain ⟨hc0, hf0⟩ := bcell hb0
      have hz0 : w.heap.size < u0.heap.size := by have := hb0.size; (try simp at this); omega
      go_wp2_with fail
      refine (laws_szRat _ x.y _ (minus left (x.x.cnt)) _ (TRat.mkAgg (Sl.below W4.out (by (repeat (first | (with_reducible exact Below.refl _ _) | ((with_reducible refine Below.set ?_ ?_ _); rotate_left; (simp <;> omega)) | (with_reducible refine Below.box_ ?_ _) | (with_reducible refine Below.next ?_ (by assumption)))))) (Sl.below W5.out (by (repeat (first | (with_reducible exact Below.refl _ _) | ((with_reducible refine Below.set ?_ ?_ _); rotate_left; (simp <;> omega)) | (with_reducible refine Below.box_ ?_ _) | (with_reducible refine Below.next ?_ (by assumption))))))) h1a h1b).mono ?_
      rintro e u1 ⟨rfl, hb1⟩
      obtain ⟨hc1, hf1⟩ := bcell hb1
      have hz1 : w.heap.size < u1.heap.size := by have := hb1.size; (try simp at this); omega
      go_wp2
      go_ret
      have L0' := L0.out; have E0' := E0.out
      have L1' := L1.out; have E1' := E1.out
      have hm := minus_pos (left := left) (n := (x.x.cnt) + (x.y.cnt)) (by omega)
      exact ⟨ret_int (by omega), by (repeat (first | (with_reducible exact Below.refl _ _) | ((with_reducible refine Below.set ?_ ?_ _); rotate_left; (simp <;> omega)) | (with_reducible refine Below.box_ ?_ _) | (with_reducible refine Below.next ?_ (by assumption))))⟩
set_option maxHeartbeats 400000 in
theorem laws_szPointS (A : Option Addr) (n c : Nat) (xs : List TPoint) (bs : List Nat) (left : Int) (w : World) (hx : Sl w A n c xs bs) (h0 : 0 ≤ left) (h1 : left ≤ 1048576) :
    Calls Try.prog 50 #[.slice A n c, .int .i64 left] w (Gives w (.int .i64 (minus left (cntL TPoint.cnt xs)))) := by
  have hn : n ≤ maxLen := Nat.le_trans hx.2.1 hx.2.2.1
  unfold maxLen at hn
  have HL := hid hx.1
  have HX := hid hx
  clear hx
  unfold cntL
  by_cases h : left - n < 0
  · go_enter Try.func50, Try.ntmps50
    go_wp2
    go_ret
    exact ⟨ret_int (by have := HL.out; rw [minus_neg (by omega)]), Below.refl _ _⟩
  · go_enter Try.func50, Try.ntmps50
    go_wp2
    go_loopw [1, 5] (fun l i wr => ∃ (k : Nat) (r : Int), k ≤ n ∧ i = .int .i64 k ∧ l = .int .i64 r ∧ 0 ≤ r ∧ r ≤ 1048576 ∧ Hid (r = left - n - (((xs.take k).map TPoint.cnt).sum : Nat)) ∧ Below w.heap.size w wr) (fun l i wr => n - (intOf i).toNat)
    case atStart => exact ⟨0, _, Nat.zero_le _, rfl, rfl, by omega, by omega, (show _ = _ by simp), Below.refl _ _⟩
    case round =>
      obtain ⟨k, r, hk, rfl, rfl, hr0, hr1, hr, hb⟩ := hrel
      by_cases hlt : k < n
      · obtain ⟨be, offe, x, A1, nA1, cA1, sA1, A2, nA2, cA2, sA2, A4, nA4, cA4, sA4, A5, nA5, cA5, sA5, rfl, hble, hxke, ee0, ee1, ee2, ee3, ee4, ee5, e1, e2, e4, e5, hmeme⟩ := TPoint.elem (Sl.below HX.out hb) hlt
        have HXk := hid hxke
        have W1 := hid e1
        have W2 := hid e2
        have W4 := hid e4
        have W5 := hid e5
        clear hxke e1 e2 e4 e5 hmeme
        rcases minus_cases r x.cnt with ⟨k1, e1, l1⟩ | ⟨k1, e1, l1⟩
        · have E1 := hid e1; have L1 := hid l1
          clear e1 l1
          go_wp2_with fail
          refine (laws_szPoint _ x _ r _ (TPoint.mkAgg W1.out W2.out W4.out W5.out) hr0 hr1).mono ?_
          rintro e u ⟨rfl, hbu⟩
          go_wp2
          go_ret
          refine ⟨ret_int ?_, Below.next hb hbu⟩
          rw [minus_neg]
          have hs := sum_take_le TPoint.cnt HXk.out
          have := hr.out; have := L1.out; have := HL.out
          omega
        · have E1 := hid e1; have L1 := hid l1
          clear e1 l1
          have hle : minus r x.cnt ≤ 1048576 := by have := E1.out; omega
          go_wp2_with fail
          refine (laws_szPoint _ x _ r _ (TPoint.mkAgg W1.out W2.out W4.out W5.out) hr0 hr1).mono ?_
          rintro e u ⟨rfl, hbu⟩
          go_wp2
          go_roundw
          case rel => exact ⟨k + 1, _, by omega, by go_num, rfl, k1, hle, (show _ = _ by have hs := sum_take_step TPoint.cnt HXk.out; have := hr.out; have := E1.out; omega), Below.next hb hbu⟩
          case measure => simp [intOf]; omega
      · obtain rfl : k = n := by omega
        go_wp2
        go_ret
        refine ⟨ret_int ?_, hb⟩
        have hr' := hr.out
        rw [List.take_of_length_le (Nat.le_of_eq HL.out)] at hr'
        rw [minus_pos (by have := HL.out; omega), hr']
        have := HL.out; omega
set_option maxHeartbeats 400000 in
theorem laws_szMesh (v : Value) (x : TMesh) (bs : List Nat) (left : Int) (w : World) (hx : Agg w v x bs) (h0 : 0 ≤ left) (h1 : left ≤ 1048576) :
    Calls Try.prog 40 #[v, .int .i64 left] w (Gives w (.int .i64 (minus left x.cnt))) := by
  obtain ⟨A0, nA0, cA0, sA0, A1, nA1, cA1, sA1, rfl, rfl, w0, w1⟩ := TMesh.agg hx
  have W0 := hid w0
  have W1 := hid w1
  clear hx w0 w1
  unfold TMesh.cnt
  have h0a := h0; have h0b := h1
  rcases minus_cases left (cntL TPoint.cnt x.points) with ⟨k0, e0, l0⟩ | ⟨k0, e0, l0⟩
  · have E0 := hid e0
    have L0 := hid l0
    clear e0 l0
    go_enter Try.func40, Try.ntmps40
    go_wp2_with fail
    refine (laws_szPointS _ _ _ x.points _ left _ (Sl.below W0.out (by (repeat (first | (with_reducible exact Below.refl _ _) | ((with_reducible refine Below.set ?_ ?_ _); rotate_left; (simp <;> omega)) | (with_reducible refine Below.box_ ?_ _) | (with_reducible refine Below.next ?_ (by assumption)))))) h0a h0b).mono ?_
    rintro e u0 ⟨rfl, hb0⟩
    obtain ⟨hc0, hf0⟩ := bcell hb0
    have hz0 : w.heap.size < u0.heap.size := by have := hb0.size; (try simp at this); omega
    go_wp2
    go_ret
    exact ⟨by have := L0.out; rw [minus_neg (show left < (((cntL TPoint.cnt x.points) + (x.triangles.length) : Nat) : Int) by omega)]; rfl, by (repeat (first | (with_reducible exact Below.refl _ _) | ((with_reducible refine Below.set ?_ ?_ _); rotate_left; (simp <;> omega)) | (with_reducible refine Below.box_ ?_ _) | (with_reducible refine Below.next ?_ (by assumption))))⟩
  · have E0 := hid e0
    have L0 := hid l0
    have h1a : 0 ≤ minus left (cntL TPoint.cnt x.points) := k0
    have h1b : minus left (cntL TPoint.cnt x.points) ≤ 1048576 := by omega
    clear e0 l0
    rcases minus_cases (minus left (cntL TPoint.cnt x.points)) (x.triangles.length) with ⟨k1, e1, l1⟩ | ⟨k1, e1, l1⟩
    · have E1 := hid e1
      have L1 := hid l1
      clear e1 l1
      go_enter Try.func40, Try.ntmps40
      go_wp2_with fail
      refine (laws_szPointS _ _ _ x.points _ left _ (Sl.below W0.out (by (repeat (first | (with_reducible exact Below.refl _ _) | ((with_reducible refine Below.set ?_ ?_ _); rotate_left; (simp <;> omega)) | (with_reducible refine Below.box_ ?_ _) | (with_reducible refine Below.next ?_ (by assumption)))))) h0a h0b).mono ?_
      rintro e u0 ⟨rfl, hb0⟩
      obtain ⟨hc0, hf0⟩ := bcell hb0
      have hz0 : w.heap.size < u0.heap.size := by have := hb0.size; (try simp at this); omega
      go_wp2_with fail
      refine (laws_szTriS _ _ _ x.triangles _ (minus left (cntL TPoint.cnt x.points)) _ (Sl.below W1.out (by (repeat (first | (with_reducible exact Below.refl _ _) | ((with_reducible refine Below.set ?_ ?_ _); rotate_left; (simp <;> omega)) | (with_reducible refine Below.box_ ?_ _) | (with_reducible refine Below.next ?_ (by assumption)))))) h1a h1b).mono ?_
      rintro e u1 ⟨rfl, hb1⟩
      obtain ⟨hc1, hf1⟩ := bcell hb1
      have hz1 : w.heap.size < u1.heap.size := by have := hb1.size; (try simp at this); omega
      go_wp2
      go_ret
      exact ⟨by have := L1.out; have := E0.out; rw [minus_neg (show left < (((cntL TPoint.cnt x.points) + (x.triangles.length) : Nat) : Int) by omega)]; rfl, by (repeat (first | (with_reducible exact Below.refl _ _) | ((with_reducible refine Below.set ?_ ?_ _); rotate_left; (simp <;> omega)) | (with_reducible refine Below.box_ ?_ _) | (with_reducible refine Below.next ?_ (by assumption))))⟩
    · have E1 := hid e1
      have L1 := hid l1
      have h2a : 0 ≤ minus (minus left (cntL TPoint.cnt x.points)) (x.triangles.length) := k1
      have h2b : minus (minus left (cntL TPoint.cnt x.points)) (x.triangles.length) ≤ 1048576 := by omega
      clear e1 l1
      go_enter Try.func40, Try.ntmps40
      go_wp2_with fail
      refine (laws_szPointS _ _ _ x.points _ left _ (Sl.below W0.out (by (repeat (first | (with_reducible exact Below.refl _ _) | ((with_reducible refine Below.set ?_ ?_ _); rotate_left; (simp <;> omega)) | (with_reducible refine Below.box_ ?_ _) | (with_reducible refine Below.next ?_ (by assumption)))))) h0a h0b).mono ?_
      rintro e u0 ⟨rfl, hb0⟩
      obtain ⟨hc0, hf0⟩ := bcell hb0
      have hz0 : w.heap.size < u0.heap.size := by have := hb0.size; (try simp at this); omega
      go_wp2_with fail
      refine (laws_szTriS _ _ _ x.triangles _ (minus left (cntL TPoint.cnt x.points)) _ (Sl.below W1.out (by (repeat (first | (with_reducible exact Below.refl _ _) | ((with_reducible refine Below.set ?_ ?_ _); rotate_left; (simp <;> omega)) | (with_reducible refine Below.box_ ?_ _) | (with_reducible refine Below.next ?_ (by assumption)))))) h1a h1b).mono ?_
      rintro e u1 ⟨rfl, hb1⟩
      obtain ⟨hc1, hf1⟩ := bcell hb1
      have hz1 : w.heap.size < u1.heap.size := by have := hb1.size; (try simp at this); omega
      go_wp2
      go_ret
      have L0' := L0.out; have E0' := E0.out
      have L1' := L1.out; have E1' := E1.out
      have hm := minus_pos (left := left) (n := (cntL TPoint.cnt x.points) + (x.triangles.length)) (by omega)
      exact ⟨ret_int (by omega), by (repeat (first | (with_reducible exact Below.refl _ _) | ((with_reducible refine Below.set ?_ ?_ _); rotate_left; (simp <;> omega)) | (with_reducible refine Below.box_ ?_ _) | (with_reducible refine Below.next ?_ (by assumption))))⟩
set_option maxHeartbeats 400000 in
theorem laws_szProblem (v : Value) (x : TProblem) (bs : List Nat) (left : Int) (w : World) (hx : Agg w v x bs) (h0 : 0 ≤ left) (h1 : left ≤ 1048576) :
    Calls Try.prog 23 #[v, .int .i64 left] w (Gives w (.int .i64 (minus left x.cnt))) := by
  obtain ⟨A0, nA0, cA0, sA0, A1, nA1, cA1, sA1, A2, nA2, cA2, sA2, A3, nA3, cA3, sA3, rfl, rfl, w0, w1, w2, w3⟩ := TProblem.agg hx
  have W0 := hid w0
  have W1 := hid w1
  have W2 := hid w2
  have W3 := hid w3
  clear hx w0 w1 w2 w3
  unfold TProblem.cnt
  have h0a := h0; have h0b := h1
  rcases minus_cases left (x.mesh.cnt) with ⟨k0, e0, l0⟩ | ⟨k0, e0, l0⟩
  · have E0 := hid e0
    have L0 := hid l0
    clear e0 l0
    go_enter Try.func23, Try.ntmps23
    go_wp2_with fail
    refine (laws_szMesh _ x.mesh _ left _ (TMesh.mkAgg (Sl.below W0.out (by (repeat (first | (with_reducible exact Below.refl _ _) | ((with_reducible refine Below.set ?_ ?_ _); rotate_left; (simp <;> omega)) | (with_reducible refine Below.box_ ?_ _) | (with_reducible refine Below.next ?_ (by assumption)))))) (Sl.below W1.out (by (repeat (first | (with_reducible exact Below.refl _ _) | ((with_reducible refine Below.set ?_ ?_ _); rotate_left; (simp <;> omega)) | (with_reducible refine Below.box_ ?_ _) | (with_reducible refine Below.next ?_ (by assumption))))))) h0a h0b).mono ?_
    rintro e u0 ⟨rfl, hb0⟩
    obtain ⟨hc0, hf0⟩ := bcell hb0
    have hz0 : w.heap.size < u0.heap.size := by have := hb0.size; (try simp at this); omega
    go_wp2
    go_ret
    exact ⟨by have := L0.out; rw [minus_neg (show left < (((x.mesh.cnt) + (cntL TRat.cnt x.diffusion) + (cntL TRat.cnt x.source) : Nat) : Int) by omega)]; rfl, by (repeat (first | (with_reducible exact Below.refl _ _) | ((with_reducible refine Below.set ?_ ?_ _); rotate_left; (simp <;> omega)) | (with_reducible refine Below.box_ ?_ _) | (with_reducible refine Below.next ?_ (by assumption))))⟩
  · have E0 := hid e0
    have L0 := hid l0
    have h1a : 0 ≤ minus left (x.mesh.cnt) := k0
    have h1b : minus left (x.mesh.cnt) ≤ 1048576 := by omega
    clear e0 l0
    rcases minus_cases (minus left (x.mesh.cnt)) (cntL TRat.cnt x.diffusion) with ⟨k1, e1, l1⟩ | ⟨k1, e1, l1⟩
    · have E1 := hid e1
      have L1 := hid l1
      clear e1 l1
      go_enter Try.func23, Try.ntmps23
      go_wp2_with fail
      refine (laws_szMesh _ x.mesh _ left _ (TMesh.mkAgg (Sl.below W0.out (by (repeat (first | (with_reducible exact Below.refl _ _) | ((with_reducible refine Below.set ?_ ?_ _); rotate_left; (simp <;> omega)) | (with_reducible refine Below.box_ ?_ _) | (with_reducible refine Below.next ?_ (by assumption)))))) (Sl.below W1.out (by (repeat (first | (with_reducible exact Below.refl _ _) | ((with_reducible refine Below.set ?_ ?_ _); rotate_left; (simp <;> omega)) | (with_reducible refine Below.box_ ?_ _) | (with_reducible refine Below.next ?_ (by assumption))))))) h0a h0b).mono ?_
      rintro e u0 ⟨rfl, hb0⟩
      obtain ⟨hc0, hf0⟩ := bcell hb0
      have hz0 : w.heap.size < u0.heap.size := by have := hb0.size; (try simp at this); omega
      go_wp2_with fail
      refine (laws_szRatS _ _ _ x.diffusion _ (minus left (x.mesh.cnt)) _ (Sl.below W2.out (by (repeat (first | (with_reducible exact Below.refl _ _) | ((with_reducible refine Below.set ?_ ?_ _); rotate_left; (simp <;> omega)) | (with_reducible refine Below.box_ ?_ _) | (with_reducible refine Below.next ?_ (by assumption)))))) h1a h1b).mono ?_
      rintro e u1 ⟨rfl, hb1⟩
      obtain ⟨hc1, hf1⟩ := bcell hb1
      have hz1 : w.heap.size < u1.heap.size := by have := hb1.size; (try simp at this); omega
      go_wp2
      go_ret
      exact ⟨by have := L1.out; have := E0.out; rw [minus_neg (show left < (((x.mesh.cnt) + (cntL TRat.cnt x.diffusion) + (cntL TRat.cnt x.source) : Nat) : Int) by omega)]; rfl, by (repeat (first | (with_reducible exact Below.refl _ _) | ((with_reducible refine Below.set ?_ ?_ _); rotate_left; (simp <;> omega)) | (with_reducible refine Below.box_ ?_ _) | (with_reducible refine Below.next ?_ (by assumption))))⟩
    · have E1 := hid e1
      have L1 := hid l1
      have h2a : 0 ≤ minus (minus left (x.mesh.cnt)) (cntL TRat.cnt x.diffusion) := k1
      have h2b : minus (minus left (x.mesh.cnt)) (cntL TRat.cnt x.diffusion) ≤ 1048576 := by omega
      clear e1 l1
      rcases minus_cases (minus (minus left (x.mesh.cnt)) (cntL TRat.cnt x.diffusion)) (cntL TRat.cnt x.source) with ⟨k2, e2, l2⟩ | ⟨k2, e2, l2⟩
      · have E2 := hid e2
        have L2 := hid l2
        clear e2 l2
        go_enter Try.func23, Try.ntmps23
        go_wp2_with fail
        refine (laws_szMesh _ x.mesh _ left _ (TMesh.mkAgg (Sl.below W0.out (by (repeat (first | (with_reducible exact Below.refl _ _) | ((with_reducible refine Below.set ?_ ?_ _); rotate_left; (simp <;> omega)) | (with_reducible refine Below.box_ ?_ _) | (with_reducible refine Below.next ?_ (by assumption)))))) (Sl.below W1.out (by (repeat (first | (with_reducible exact Below.refl _ _) | ((with_reducible refine Below.set ?_ ?_ _); rotate_left; (simp <;> omega)) | (with_reducible refine Below.box_ ?_ _) | (with_reducible refine Below.next ?_ (by assumption))))))) h0a h0b).mono ?_
        rintro e u0 ⟨rfl, hb0⟩
        obtain ⟨hc0, hf0⟩ := bcell hb0
        have hz0 : w.heap.size < u0.heap.size := by have := hb0.size; (try simp at this); omega
        go_wp2_with fail
        refine (laws_szRatS _ _ _ x.diffusion _ (minus left (x.mesh.cnt)) _ (Sl.below W2.out (by (repeat (first | (with_reducible exact Below.refl _ _) | ((with_reducible refine Below.set ?_ ?_ _); rotate_left; (simp <;> omega)) | (with_reducible refine Below.box_ ?_ _) | (with_reducible refine Below.next ?_ (by assumption)))))) h1a h1b).mono ?_
        rintro e u1 ⟨rfl, hb1⟩
        obtain ⟨hc1, hf1⟩ := bcell hb1
        have hz1 : w.heap.size < u1.heap.size := by have := hb1.size; (try simp at this); omega
        go_wp2_with fail
        refine (laws_szRatS _ _ _ x.source _ (minus (minus left (x.mesh.cnt)) (cntL TRat.cnt x.diffusion)) _ (Sl.below W3.out (by (repeat (first | (with_reducible exact Below.refl _ _) | ((with_reducible refine Below.set ?_ ?_ _); rotate_left; (simp <;> omega)) | (with_reducible refine Below.box_ ?_ _) | (with_reducible refine Below.next ?_ (by assumption)))))) h2a h2b).mono ?_
        rintro e u2 ⟨rfl, hb2⟩
        obtain ⟨hc2, hf2⟩ := bcell hb2
        have hz2 : w.heap.size < u2.heap.size := by have := hb2.size; (try simp at this); omega
        go_wp2
        go_ret
        exact ⟨by have := L2.out; have := E0.out; have := E1.out; rw [minus_neg (show left < (((x.mesh.cnt) + (cntL TRat.cnt x.diffusion) + (cntL TRat.cnt x.source) : Nat) : Int) by omega)]; rfl, by (repeat (first | (with_reducible exact Below.refl _ _) | ((with_reducible refine Below.set ?_ ?_ _); rotate_left; (simp <;> omega)) | (with_reducible refine Below.box_ ?_ _) | (with_reducible refine Below.next ?_ (by assumption))))⟩
      · have E2 := hid e2
        have L2 := hid l2
        have h3a : 0 ≤ minus (minus (minus left (x.mesh.cnt)) (cntL TRat.cnt x.diffusion)) (cntL TRat.cnt x.source) := k2
        have h3b : minus (minus (minus left (x.mesh.cnt)) (cntL TRat.cnt x.diffusion)) (cntL TRat.cnt x.source) ≤ 1048576 := by omega
        clear e2 l2
        go_enter Try.func23, Try.ntmps23
        go_wp2_with fail
        refine (laws_szMesh _ x.mesh _ left _ (TMesh.mkAgg (Sl.below W0.out (by (repeat (first | (with_reducible exact Below.refl _ _) | ((with_reducible refine Below.set ?_ ?_ _); rotate_left; (simp <;> omega)) | (with_reducible refine Below.box_ ?_ _) | (with_reducible refine Below.next ?_ (by assumption)))))) (Sl.below W1.out (by (repeat (first | (with_reducible exact Below.refl _ _) | ((with_reducible refine Below.set ?_ ?_ _); rotate_left; (simp <;> omega)) | (with_reducible refine Below.box_ ?_ _) | (with_reducible refine Below.next ?_ (by assumption))))))) h0a h0b).mono ?_
        rintro e u0 ⟨rfl, hb0⟩
        obtain ⟨hc0, hf0⟩ := bcell hb0
        have hz0 : w.heap.size < u0.heap.size := by have := hb0.size; (try simp at this); omega
        go_wp2_with fail
        refine (laws_szRatS _ _ _ x.diffusion _ (minus left (x.mesh.cnt)) _ (Sl.below W2.out (by (repeat (first | (with_reducible exact Below.refl _ _) | ((with_reducible refine Below.set ?_ ?_ _); rotate_left; (simp <;> omega)) | (with_reducible refine Below.box_ ?_ _) | (with_reducible refine Below.next ?_ (by assumption)))))) h1a h1b).mono ?_
        rintro e u1 ⟨rfl, hb1⟩
        obtain ⟨hc1, hf1⟩ := bcell hb1
        have hz1 : w.heap.size < u1.heap.size := by have := hb1.size; (try simp at this); omega
        go_wp2_with fail
        refine (laws_szRatS _ _ _ x.source _ (minus (minus left (x.mesh.cnt)) (cntL TRat.cnt x.diffusion)) _ (Sl.below W3.out (by (repeat (first | (with_reducible exact Below.refl _ _) | ((with_reducible refine Below.set ?_ ?_ _); rotate_left; (simp <;> omega)) | (with_reducible refine Below.box_ ?_ _) | (with_reducible refine Below.next ?_ (by assumption)))))) h2a h2b).mono ?_
        rintro e u2 ⟨rfl, hb2⟩
        obtain ⟨hc2, hf2⟩ := bcell hb2
        have hz2 : w.heap.size < u2.heap.size := by have := hb2.size; (try simp at this); omega
        go_wp2
        go_ret
        have L0' := L0.out; have E0' := E0.out
        have L1' := L1.out; have E1' := E1.out
        have L2' := L2.out; have E2' := E2.out
        have hm := minus_pos (left := left) (n := (x.mesh.cnt) + (cntL TRat.cnt x.diffusion) + (cntL TRat.cnt x.source)) (by omega)
        exact ⟨ret_int (by omega), by (repeat (first | (with_reducible exact Below.refl _ _) | ((with_reducible refine Below.set ?_ ?_ _); rotate_left; (simp <;> omega)) | (with_reducible refine Below.box_ ?_ _) | (with_reducible refine Below.next ?_ (by assumption))))⟩
set_option maxHeartbeats 400000 in
theorem laws_szReport (v : Value) (x : TReport) (bs : List Nat) (left : Int) (w : World) (hx : Agg w v x bs) (h0 : 0 ≤ left) (h1 : left ≤ 1048576) :
    Calls Try.prog 8 #[v, .int .i64 left] w (Gives w (.int .i64 (minus left x.cnt))) := by
  obtain ⟨A2, nA2, cA2, sA2, A3, nA3, cA3, sA3, A5, nA5, cA5, sA5, A6, nA6, cA6, sA6, rfl, rfl, w0, w2, w3, w5, w6⟩ := TReport.agg hx
  have W0 := hid w0
  have W2 := hid w2
  have W3 := hid w3
  have W5 := hid w5
  have W6 := hid w6
  clear hx w0 w2 w3 w5 w6
  unfold TReport.cnt
  have h0a := h0; have h0b := h1
  rcases minus_cases left (x.energy.cnt) with ⟨k0, e0, l0⟩ | ⟨k0, e0, l0⟩
  · have E0 := hid e0
    have L0 := hid l0
    clear e0 l0
    go_enter Try.func8, Try.ntmps8
    go_wp2_with fail
    refine (laws_szRat _ x.energy _ left _ (TRat.mkAgg (Sl.below W2.out (by (repeat (first | (with_reducible exact Below.refl _ _) | ((with_reducible refine Below.set ?_ ?_ _); rotate_left; (simp <;> omega)) | (with_reducible refine Below.box_ ?_ _) | (with_reducible refine Below.next ?_ (by assumption)))))) (Sl.below W3.out (by (repeat (first | (with_reducible exact Below.refl _ _) | ((with_reducible refine Below.set ?_ ?_ _); rotate_left; (simp <;> omega)) | (with_reducible refine Below.box_ ?_ _) | (with_reducible refine Below.next ?_ (by assumption))))))) h0a h0b).mono ?_
    rintro e u0 ⟨rfl, hb0⟩
    obtain ⟨hc0, hf0⟩ := bcell hb0
    have hz0 : w.heap.size < u0.heap.size := by have := hb0.size; (try simp at this); omega
    go_wp2
    go_ret
    exact ⟨by have := L0.out; rw [minus_neg (show left < (((x.energy.cnt) + (x.bound.cnt) : Nat) : Int) by omega)]; rfl, by (repeat (first | (with_reducible exact Below.refl _ _) | ((with_reducible refine Below.set ?_ ?_ _); rotate_left; (simp <;> omega)) | (with_reducible refine Below.box_ ?_ _) | (with_reducible refine Below.next ?_ (by assumption))))⟩
  · have E0 := hid e0
    have L0 := hid l0
    have h1a : 0 ≤ minus left (x.energy.cnt) := k0
    have h1b : minus left (x.energy.cnt) ≤ 1048576 := by omega
    clear e0 l0
    rcases minus_cases (minus left (x.energy.cnt)) (x.bound.cnt) with ⟨k1, e1, l1⟩ | ⟨k1, e1, l1⟩
    · have E1 := hid e1
      have L1 := hid l1
      clear e1 l1
      go_enter Try.func8, Try.ntmps8
      go_wp2_with fail
      refine (laws_szRat _ x.energy _ left _ (TRat.mkAgg (Sl.below W2.out (by (repeat (first | (with_reducible exact Below.refl _ _) | ((with_reducible refine Below.set ?_ ?_ _); rotate_left; (simp <;> omega)) | (with_reducible refine Below.box_ ?_ _) | (with_reducible refine Below.next ?_ (by assumption)))))) (Sl.below W3.out (by (repeat (first | (with_reducible exact Below.refl _ _) | ((with_reducible refine Below.set ?_ ?_ _); rotate_left; (simp <;> omega)) | (with_reducible refine Below.box_ ?_ _) | (with_reducible refine Below.next ?_ (by assumption))))))) h0a h0b).mono ?_
      rintro e u0 ⟨rfl, hb0⟩
      obtain ⟨hc0, hf0⟩ := bcell hb0
      have hz0 : w.heap.size < u0.heap.size := by have := hb0.size; (try simp at this); omega
      go_wp2_with fail
      refine (laws_szRat _ x.bound _ (minus left (x.energy.cnt)) _ (TRat.mkAgg (Sl.below W5.out (by (repeat (first | (with_reducible exact Below.refl _ _) | ((with_reducible refine Below.set ?_ ?_ _); rotate_left; (simp <;> omega)) | (with_reducible refine Below.box_ ?_ _) | (with_reducible refine Below.next ?_ (by assumption)))))) (Sl.below W6.out (by (repeat (first | (with_reducible exact Below.refl _ _) | ((with_reducible refine Below.set ?_ ?_ _); rotate_left; (simp <;> omega)) | (with_reducible refine Below.box_ ?_ _) | (with_reducible refine Below.next ?_ (by assumption))))))) h1a h1b).mono ?_
      rintro e u1 ⟨rfl, hb1⟩
      obtain ⟨hc1, hf1⟩ := bcell hb1
      have hz1 : w.heap.size < u1.heap.size := by have := hb1.size; (try simp at this); omega
      go_wp2
      go_ret
      exact ⟨by have := L1.out; have := E0.out; rw [minus_neg (show left < (((x.energy.cnt) + (x.bound.cnt) : Nat) : Int) by omega)]; rfl, by (repeat (first | (with_reducible exact Below.refl _ _) | ((with_reducible refine Below.set ?_ ?_ _); rotate_left; (simp <;> omega)) | (with_reducible refine Below.box_ ?_ _) | (with_reducible refine Below.next ?_ (by assumption))))⟩
    · have E1 := hid e1
      have L1 := hid l1
      have h2a : 0 ≤ minus (minus left (x.energy.cnt)) (x.bound.cnt) := k1
      have h2b : minus (minus left (x.energy.cnt)) (x.bound.cnt) ≤ 1048576 := by omega
      clear e1 l1
      go_enter Try.func8, Try.ntmps8
      go_wp2_with fail
      refine (laws_szRat _ x.energy _ left _ (TRat.mkAgg (Sl.below W2.out (by (repeat (first | (with_reducible exact Below.refl _ _) | ((with_reducible refine Below.set ?_ ?_ _); rotate_left; (simp <;> omega)) | (with_reducible refine Below.box_ ?_ _) | (with_reducible refine Below.next ?_ (by assumption)))))) (Sl.below W3.out (by (repeat (first | (with_reducible exact Below.refl _ _) | ((with_reducible refine Below.set ?_ ?_ _); rotate_left; (simp <;> omega)) | (with_reducible refine Below.box_ ?_ _) | (with_reducible refine Below.next ?_ (by assumption))))))) h0a h0b).mono ?_
      rintro e u0 ⟨rfl, hb0⟩
      obtain ⟨hc0, hf0⟩ := bcell hb0
      have hz0 : w.heap.size < u0.heap.size := by have := hb0.size; (try simp at this); omega
      go_wp2_with fail
      refine (laws_szRat _ x.bound _ (minus left (x.energy.cnt)) _ (TRat.mkAgg (Sl.below W5.out (by (repeat (first | (with_reducible exact Below.refl _ _) | ((with_reducible refine Below.set ?_ ?_ _); rotate_left; (simp <;> omega)) | (with_reducible refine Below.box_ ?_ _) | (with_reducible refine Below.next ?_ (by assumption)))))) (Sl.below W6.out (by (repeat (first | (with_reducible exact Below.refl _ _) | ((with_reducible refine Below.set ?_ ?_ _); rotate_left; (simp <;> omega)) | (with_reducible refine Below.box_ ?_ _) | (with_reducible refine Below.next ?_ (by assumption))))))) h1a h1b).mono ?_
      rintro e u1 ⟨rfl, hb1⟩
      obtain ⟨hc1, hf1⟩ := bcell hb1
      have hz1 : w.heap.size < u1.heap.size := by have := hb1.size; (try simp at this); omega
      go_wp2
      go_ret
      have L0' := L0.out; have E0' := E0.out
      have L1' := L1.out; have E1' := E1.out
      have hm := minus_pos (left := left) (n := (x.energy.cnt) + (x.bound.cnt)) (by omega)
      exact ⟨ret_int (by omega), by (repeat (first | (with_reducible exact Below.refl _ _) | ((with_reducible refine Below.set ?_ ?_ _); rotate_left; (simp <;> omega)) | (with_reducible refine Below.box_ ?_ _) | (with_reducible refine Below.next ?_ (by assumption))))⟩
set_option maxHeartbeats 400000 in
theorem laws_szReportS (A : Option Addr) (n c : Nat) (xs : List TReport) (bs : List Nat) (left : Int) (w : World) (hx : Sl w A n c xs bs) (h0 : 0 ≤ left) (h1 : left ≤ 1048576) :
    Calls Try.prog 24 #[.slice A n c, .int .i64 left] w (Gives w (.int .i64 (minus left (cntL TReport.cnt xs)))) := by
  have hn : n ≤ maxLen := Nat.le_trans hx.2.1 hx.2.2.1
  unfold maxLen at hn
  have HL := hid hx.1
  have HX := hid hx
  clear hx
  unfold cntL
  by_cases h : left - n < 0
  · go_enter Try.func24, Try.ntmps24
    go_wp2
    go_ret
    exact ⟨ret_int (by have := HL.out; rw [minus_neg (by omega)]), Below.refl _ _⟩
  · go_enter Try.func24, Try.ntmps24
    go_wp2
    go_loopw [1, 5] (fun l i wr => ∃ (k : Nat) (r : Int), k ≤ n ∧ i = .int .i64 k ∧ l = .int .i64 r ∧ 0 ≤ r ∧ r ≤ 1048576 ∧ Hid (r = left - n - (((xs.take k).map TReport.cnt).sum : Nat)) ∧ Below w.heap.size w wr) (fun l i wr => n - (intOf i).toNat)
    case atStart => exact ⟨0, _, Nat.zero_le _, rfl, rfl, by omega, by omega, (show _ = _ by simp), Below.refl _ _⟩
    case round =>
      obtain ⟨k, r, hk, rfl, rfl, hr0, hr1, hr, hb⟩ := hrel
      by_cases hlt : k < n
      · obtain ⟨be, offe, x, A2, nA2, cA2, sA2, A3, nA3, cA3, sA3, A5, nA5, cA5, sA5, A6, nA6, cA6, sA6, rfl, hble, hxke, ee0, ee1, ee2, ee3, ee4, ee5, ee6, e0, e2, e3, e5, e6, hmeme⟩ := TReport.elem (Sl.below HX.out hb) hlt
        have HXk := hid hxke
        have W0 := hid e0
        have W2 := hid e2
        have W3 := hid e3
        have W5 := hid e5
        have W6 := hid e6
        clear hxke e0 e2 e3 e5 e6 hmeme
        rcases minus_cases r x.cnt with ⟨k1, e1, l1⟩ | ⟨k1, e1, l1⟩
        · have E1 := hid e1; have L1 := hid l1
          clear e1 l1
          go_wp2_with fail
          refine (laws_szReport _ x _ r _ (TReport.mkAgg W0.out W2.out W3.out W5.out W6.out) hr0 hr1).mono ?_
          rintro e u ⟨rfl, hbu⟩
          go_wp2
          go_ret
          refine ⟨ret_int ?_, Below.next hb hbu⟩
          rw [minus_neg]
          have hs := sum_take_le TReport.cnt HXk.out
          have := hr.out; have := L1.out; have := HL.out
          omega
        · have E1 := hid e1; have L1 := hid l1
          clear e1 l1
          have hle : minus r x.cnt ≤ 1048576 := by have := E1.out; omega
          go_wp2_with fail
          refine (laws_szReport _ x _ r _ (TReport.mkAgg W0.out W2.out W3.out W5.out W6.out) hr0 hr1).mono ?_
          rintro e u ⟨rfl, hbu⟩
          go_wp2
          go_roundw
          case rel => exact ⟨k + 1, _, by omega, by go_num, rfl, k1, hle, (show _ = _ by have hs := sum_take_step TReport.cnt HXk.out; have := hr.out; have := E1.out; omega), Below.next hb hbu⟩
          case measure => simp [intOf]; omega
      · obtain rfl : k = n := by omega
        go_wp2
        go_ret
        refine ⟨ret_int ?_, hb⟩
        have hr' := hr.out
        rw [List.take_of_length_le (Nat.le_of_eq HL.out)] at hr'
        rw [minus_pos (by have := HL.out; omega), hr']
        have := HL.out; omega
set_option maxHeartbeats 400000 in
theorem laws_szState (v : Value) (x : TState) (bs : List Nat) (left : Int) (w : World) (hx : Agg w v x bs) (h0 : 0 ≤ left) (h1 : left ≤ 1048576) :
    Calls Try.prog 13 #[v, .int .i64 left] w (Gives w (.int .i64 (minus left x.cnt))) := by
  obtain ⟨A0, nA0, cA0, sA0, A1, nA1, cA1, sA1, A2, nA2, cA2, sA2, A3, nA3, cA3, sA3, A5, nA5, cA5, sA5, A6, nA6, cA6, sA6, A7, nA7, cA7, sA7, rfl, rfl, w0, w1, w2, w3, w5, w6, w7⟩ := TState.agg hx
  have W0 := hid w0
  have W1 := hid w1
  have W2 := hid w2
  have W3 := hid w3
  have W5 := hid w5
  have W6 := hid w6
  have W7 := hid w7
  clear hx w0 w1 w2 w3 w5 w6 w7
  unfold TState.cnt
  have h0a := h0; have h0b := h1
  rcases minus_cases left (x.problem.cnt) with ⟨k0, e0, l0⟩ | ⟨k0, e0, l0⟩
  · have E0 := hid e0
    have L0 := hid l0
    clear e0 l0
    go_enter Try.func13, Try.ntmps13
    go_wp2_with fail
    refine (laws_szProblem _ x.problem _ left _ (TProblem.mkAgg (Sl.below W0.out (by (repeat (first | (with_reducible exact Below.refl _ _) | ((with_reducible refine Below.set ?_ ?_ _); rotate_left; (simp <;> omega)) | (with_reducible refine Below.box_ ?_ _) | (with_reducible refine Below.next ?_ (by assumption)))))) (Sl.below W1.out (by (repeat (first | (with_reducible exact Below.refl _ _) | ((with_reducible refine Below.set ?_ ?_ _); rotate_left; (simp <;> omega)) | (with_reducible refine Below.box_ ?_ _) | (with_reducible refine Below.next ?_ (by assumption)))))) (Sl.below W2.out (by (repeat (first | (with_reducible exact Below.refl _ _) | ((with_reducible refine Below.set ?_ ?_ _); rotate_left; (simp <;> omega)) | (with_reducible refine Below.box_ ?_ _) | (with_reducible refine Below.next ?_ (by assumption)))))) (Sl.below W3.out (by (repeat (first | (with_reducible exact Below.refl _ _) | ((with_reducible refine Below.set ?_ ?_ _); rotate_left; (simp <;> omega)) | (with_reducible refine Below.box_ ?_ _) | (with_reducible refine Below.next ?_ (by assumption))))))) h0a h0b).mono ?_
    rintro e u0 ⟨rfl, hb0⟩
    obtain ⟨hc0, hf0⟩ := bcell hb0
    have hz0 : w.heap.size < u0.heap.size := by have := hb0.size; (try simp at this); omega
    go_wp2
    go_ret
    exact ⟨by have := L0.out; rw [minus_neg (show left < (((x.problem.cnt) + (x.part.cnt) + (cntL TReport.cnt x.reports) : Nat) : Int) by omega)]; rfl, by (repeat (first | (with_reducible exact Below.refl _ _) | ((with_reducible refine Below.set ?_ ?_ _); rotate_left; (simp <;> omega)) | (with_reducible refine Below.box_ ?_ _) | (with_reducible refine Below.next ?_ (by assumption))))⟩
  · have E0 := hid e0
    have L0 := hid l0
    have h1a : 0 ≤ minus left (x.problem.cnt) := k0
    have h1b : minus left (x.problem.cnt) ≤ 1048576 := by omega
    clear e0 l0
    rcases minus_cases (minus left (x.problem.cnt)) (x.part.cnt) with ⟨k1, e1, l1⟩ | ⟨k1, e1, l1⟩
    · have E1 := hid e1
      have L1 := hid l1
      clear e1 l1
      go_enter Try.func13, Try.ntmps13
      go_wp2_with fail
      refine (laws_szProblem _ x.problem _ left _ (TProblem.mkAgg (Sl.below W0.out (by (repeat (first | (with_reducible exact Below.refl _ _) | ((with_reducible refine Below.set ?_ ?_ _); rotate_left; (simp <;> omega)) | (with_reducible refine Below.box_ ?_ _) | (with_reducible refine Below.next ?_ (by assumption)))))) (Sl.below W1.out (by (repeat (first | (with_reducible exact Below.refl _ _) | ((with_reducible refine Below.set ?_ ?_ _); rotate_left; (simp <;> omega)) | (with_reducible refine Below.box_ ?_ _) | (with_reducible refine Below.next ?_ (by assumption)))))) (Sl.below W2.out (by (repeat (first | (with_reducible exact Below.refl _ _) | ((with_reducible refine Below.set ?_ ?_ _); rotate_left; (simp <;> omega)) | (with_reducible refine Below.box_ ?_ _) | (with_reducible refine Below.next ?_ (by assumption)))))) (Sl.below W3.out (by (repeat (first | (with_reducible exact Below.refl _ _) | ((with_reducible refine Below.set ?_ ?_ _); rotate_left; (simp <;> omega)) | (with_reducible refine Below.box_ ?_ _) | (with_reducible refine Below.next ?_ (by assumption))))))) h0a h0b).mono ?_
      rintro e u0 ⟨rfl, hb0⟩
      obtain ⟨hc0, hf0⟩ := bcell hb0
      have hz0 : w.heap.size < u0.heap.size := by have := hb0.size; (try simp at this); omega
      go_wp2_with fail
      refine (laws_szRat _ x.part _ (minus left (x.problem.cnt)) _ (TRat.mkAgg (Sl.below W5.out (by (repeat (first | (with_reducible exact Below.refl _ _) | ((with_reducible refine Below.set ?_ ?_ _); rotate_left; (simp <;> omega)) | (with_reducible refine Below.box_ ?_ _) | (with_reducible refine Below.next ?_ (by assumption)))))) (Sl.below W6.out (by (repeat (first | (with_reducible exact Below.refl _ _) | ((with_reducible refine Below.set ?_ ?_ _); rotate_left; (simp <;> omega)) | (with_reducible refine Below.box_ ?_ _) | (with_reducible refine Below.next ?_ (by assumption))))))) h1a h1b).mono ?_
      rintro e u1 ⟨rfl, hb1⟩
      obtain ⟨hc1, hf1⟩ := bcell hb1
      have hz1 : w.heap.size < u1.heap.size := by have := hb1.size; (try simp at this); omega
      go_wp2
      go_ret
      exact ⟨by have := L1.out; have := E0.out; rw [minus_neg (show left < (((x.problem.cnt) + (x.part.cnt) + (cntL TReport.cnt x.reports) : Nat) : Int) by omega)]; rfl, by (repeat (first | (with_reducible exact Below.refl _ _) | ((with_reducible refine Below.set ?_ ?_ _); rotate_left; (simp <;> omega)) | (with_reducible refine Below.box_ ?_ _) | (with_reducible refine Below.next ?_ (by assumption))))⟩
    · have E1 := hid e1
      have L1 := hid l1
      have h2a : 0 ≤ minus (minus left (x.problem.cnt)) (x.part.cnt) := k1
      have h2b : minus (minus left (x.problem.cnt)) (x.part.cnt) ≤ 1048576 := by omega
      clear e1 l1
      rcases minus_cases (minus (minus left (x.problem.cnt)) (x.part.cnt)) (cntL TReport.cnt x.reports) with ⟨k2, e2, l2⟩ | ⟨k2, e2, l2⟩
      · have E2 := hid e2
        have L2 := hid l2
        clear e2 l2
        go_enter Try.func13, Try.ntmps13
        go_wp2_with fail
        refine (laws_szProblem _ x.problem _ left _ (TProblem.mkAgg (Sl.below W0.out (by (repeat (first | (with_reducible exact Below.refl _ _) | ((with_reducible refine Below.set ?_ ?_ _); rotate_left; (simp <;> omega)) | (with_reducible refine Below.box_ ?_ _) | (with_reducible refine Below.next ?_ (by assumption)))))) (Sl.below W1.out (by (repeat (first | (with_reducible exact Below.refl _ _) | ((with_reducible refine Below.set ?_ ?_ _); rotate_left; (simp <;> omega)) | (with_reducible refine Below.box_ ?_ _) | (with_reducible refine Below.next ?_ (by assumption)))))) (Sl.below W2.out (by (repeat (first | (with_reducible exact Below.refl _ _) | ((with_reducible refine Below.set ?_ ?_ _); rotate_left; (simp <;> omega)) | (with_reducible refine Below.box_ ?_ _) | (with_reducible refine Below.next ?_ (by assumption)))))) (Sl.below W3.out (by (repeat (first | (with_reducible exact Below.refl _ _) | ((with_reducible refine Below.set ?_ ?_ _); rotate_left; (simp <;> omega)) | (with_reducible refine Below.box_ ?_ _) | (with_reducible refine Below.next ?_ (by assumption))))))) h0a h0b).mono ?_
        rintro e u0 ⟨rfl, hb0⟩
        obtain ⟨hc0, hf0⟩ := bcell hb0
        have hz0 : w.heap.size < u0.heap.size := by have := hb0.size; (try simp at this); omega
        go_wp2_with fail
        refine (laws_szRat _ x.part _ (minus left (x.problem.cnt)) _ (TRat.mkAgg (Sl.below W5.out (by (repeat (first | (with_reducible exact Below.refl _ _) | ((with_reducible refine Below.set ?_ ?_ _); rotate_left; (simp <;> omega)) | (with_reducible refine Below.box_ ?_ _) | (with_reducible refine Below.next ?_ (by assumption)))))) (Sl.below W6.out (by (repeat (first | (with_reducible exact Below.refl _ _) | ((with_reducible refine Below.set ?_ ?_ _); rotate_left; (simp <;> omega)) | (with_reducible refine Below.box_ ?_ _) | (with_reducible refine Below.next ?_ (by assumption))))))) h1a h1b).mono ?_
        rintro e u1 ⟨rfl, hb1⟩
        obtain ⟨hc1, hf1⟩ := bcell hb1
        have hz1 : w.heap.size < u1.heap.size := by have := hb1.size; (try simp at this); omega
        go_wp2_with fail
        refine (laws_szReportS _ _ _ x.reports _ (minus (minus left (x.problem.cnt)) (x.part.cnt)) _ (Sl.below W7.out (by (repeat (first | (with_reducible exact Below.refl _ _) | ((with_reducible refine Below.set ?_ ?_ _); rotate_left; (simp <;> omega)) | (with_reducible refine Below.box_ ?_ _) | (with_reducible refine Below.next ?_ (by assumption)))))) h2a h2b).mono ?_
        rintro e u2 ⟨rfl, hb2⟩
        obtain ⟨hc2, hf2⟩ := bcell hb2
        have hz2 : w.heap.size < u2.heap.size := by have := hb2.size; (try simp at this); omega
        go_wp2
        go_ret
        exact ⟨by have := L2.out; have := E0.out; have := E1.out; rw [minus_neg (show left < (((x.problem.cnt) + (x.part.cnt) + (cntL TReport.cnt x.reports) : Nat) : Int) by omega)]; rfl, by (repeat (first | (with_reducible exact Below.refl _ _) | ((with_reducible refine Below.set ?_ ?_ _); rotate_left; (simp <;> omega)) | (with_reducible refine Below.box_ ?_ _) | (with_reducible refine Below.next ?_ (by assumption))))⟩
      · have E2 := hid e2
        have L2 := hid l2
        have h3a : 0 ≤ minus (minus (minus left (x.problem.cnt)) (x.part.cnt)) (cntL TReport.cnt x.reports) := k2
        have h3b : minus (minus (minus left (x.problem.cnt)) (x.part.cnt)) (cntL TReport.cnt x.reports) ≤ 1048576 := by omega
        clear e2 l2
        go_enter Try.func13, Try.ntmps13
        go_wp2_with fail
        refine (laws_szProblem _ x.problem _ left _ (TProblem.mkAgg (Sl.below W0.out (by (repeat (first | (with_reducible exact Below.refl _ _) | ((with_reducible refine Below.set ?_ ?_ _); rotate_left; (simp <;> omega)) | (with_reducible refine Below.box_ ?_ _) | (with_reducible refine Below.next ?_ (by assumption)))))) (Sl.below W1.out (by (repeat (first | (with_reducible exact Below.refl _ _) | ((with_reducible refine Below.set ?_ ?_ _); rotate_left; (simp <;> omega)) | (with_reducible refine Below.box_ ?_ _) | (with_reducible refine Below.next ?_ (by assumption)))))) (Sl.below W2.out (by (repeat (first | (with_reducible exact Below.refl _ _) | ((with_reducible refine Below.set ?_ ?_ _); rotate_left; (simp <;> omega)) | (with_reducible refine Below.box_ ?_ _) | (with_reducible refine Below.next ?_ (by assumption)))))) (Sl.below W3.out (by (repeat (first | (with_reducible exact Below.refl _ _) | ((with_reducible refine Below.set ?_ ?_ _); rotate_left; (simp <;> omega)) | (with_reducible refine Below.box_ ?_ _) | (with_reducible refine Below.next ?_ (by assumption))))))) h0a h0b).mono ?_
        rintro e u0 ⟨rfl, hb0⟩
        obtain ⟨hc0, hf0⟩ := bcell hb0
        have hz0 : w.heap.size < u0.heap.size := by have := hb0.size; (try simp at this); omega
        go_wp2_with fail
        refine (laws_szRat _ x.part _ (minus left (x.problem.cnt)) _ (TRat.mkAgg (Sl.below W5.out (by (repeat (first | (with_reducible exact Below.refl _ _) | ((with_reducible refine Below.set ?_ ?_ _); rotate_left; (simp <;> omega)) | (with_reducible refine Below.box_ ?_ _) | (with_reducible refine Below.next ?_ (by assumption)))))) (Sl.below W6.out (by (repeat (first | (with_reducible exact Below.refl _ _) | ((with_reducible refine Below.set ?_ ?_ _); rotate_left; (simp <;> omega)) | (with_reducible refine Below.box_ ?_ _) | (with_reducible refine Below.next ?_ (by assumption))))))) h1a h1b).mono ?_
        rintro e u1 ⟨rfl, hb1⟩
        obtain ⟨hc1, hf1⟩ := bcell hb1
        have hz1 : w.heap.size < u1.heap.size := by have := hb1.size; (try simp at this); omega
        go_wp2_with fail
        refine (laws_szReportS _ _ _ x.reports _ (minus (minus left (x.problem.cnt)) (x.part.cnt)) _ (Sl.below W7.out (by (repeat (first | (with_reducible exact Below.refl _ _) | ((with_reducible refine Below.set ?_ ?_ _); rotate_left; (simp <;> omega)) | (with_reducible refine Below.box_ ?_ _) | (with_reducible refine Below.next ?_ (by assumption)))))) h2a h2b).mono ?_
        rintro e u2 ⟨rfl, hb2⟩
        obtain ⟨hc2, hf2⟩ := bcell hb2
        have hz2 : w.heap.size < u2.heap.size := by have := hb2.size; (try simp at this); omega
        go_wp2
        go_ret
        have L0' := L0.out; have E0' := E0.out
        have L1' := L1.out; have E1' := E1.out
        have L2' := L2.out; have E2' := E2.out
        have hm := minus_pos (left := left) (n := (x.problem.cnt) + (x.part.cnt) + (cntL TReport.cnt x.reports)) (by omega)
        exact ⟨ret_int (by omega), by (repeat (first | (with_reducible exact Below.refl _ _) | ((with_reducible refine Below.set ?_ ?_ _); rotate_left; (simp <;> omega)) | (with_reducible refine Below.box_ ?_ _) | (with_reducible refine Below.next ?_ (by assumption))))⟩
end Go.Proofs.Ytmhcfdipnofohaa.X
