/- The reference's integers and fractions. No condition. -/
import Derived.Test.YthlpjpcnpcclhaaDoorP8
import Derived.Test.YthlpjpcnpcclhaaDoorP2
import Derived.Test.YthlpjpcnpcclhaaDoorP7
import Derived.Deep.CutBlock
import Derived.Deep.DeepCutAuto
/- The reference's numbers: l02Gcd, BigIntOk, l03Make, BigIntOf. -/
namespace Go.Proofs.YthlpjpcnpcclhaaDoor.X
open Go.RowKit Go.XB Go.XN
attribute [local go_sem] fillBy opAt deps depOf Region.wanted yielded
attribute [local simp] deps depOf MP.eq MP.agg MP.sl Facts

theorem Own.right_ {w0 w : World} {a b : List Nat} (h : Own w0 w (a ++ b)) : Own w0 w b := ⟨(List.nodup_append.1 h.1).2.1, fun g hg => h.2 g (List.mem_append_right _ hg)⟩

set_option maxHeartbeats 2000000 in
theorem spec_l02Gcd (A B : Option Addr) (n m c d : Nat) (xs ys : List Int) (bs ds : List Nat) (w : World) (hx : Sl w A n c xs bs) (hy : Sl w B m d ys ds) (hcx : XN.Can xs) (hcy : XN.Can ys) (hn : n ≤ 65536) (hm : m ≤ 65536) :
    Calls Tryd.prog 29 #[.slice A n c, .slice B m d] w (GivesSl w (dig (Int.gcd (val xs) (val ys)))) := by
  obtain ⟨i0, hi, hz0, hz1, hz2⟩ := info_parts infoI
  have HX := hid hx
  have HY := hid hy
  have CX := hid hcx
  have CY := hid hcy
  have hn' := hid (Nat.le_trans hn (show 65536 ≤ 1048576 by decide))
  have hm' := hid (Nat.le_trans hm (show 65536 ≤ 1048576 by decide))
  clear hx hy hcx hcy
  go_enter Tryd.func29, Tryd.ntmps29
  go_wp2_with (first
    | (at_builtin; (refine wpList_clone rfl _ _ 22 rfl 3 i0 Tryd.underlying22 hi hz0 hz1 hz2 _ rfl A n c xs bs rfl (Sl.below HX.out (by (repeat (first | (with_reducible exact Below.refl _ _) | ((with_reducible refine Below.set ?_ ?_ _); rotate_left; (simp <;> omega)) | (with_reducible refine Below.box_ ?_ _) | (with_reducible refine Below.next ?_ (by assumption)))))) hn'.out ?_); intro A1 c1 s1 w1 hs1 ho1 hb1)
    | (at_builtin; (refine wpList_clone rfl _ _ 22 rfl 3 i0 Tryd.underlying22 hi hz0 hz1 hz2 _ rfl B m d ys ds rfl (Sl.below HY.out (by (repeat (first | (with_reducible exact Below.refl _ _) | ((with_reducible refine Below.set ?_ ?_ _); rotate_left; (simp <;> omega)) | (with_reducible refine Below.box_ ?_ _) | (with_reducible refine Below.next ?_ (by assumption)))))) hm'.out ?_); intro A2 c2 s2 w2 hs2 ho2 hb2))
  have bb1 : Below w.heap.size w w1 := by (repeat (first | (with_reducible exact Below.refl _ _) | ((with_reducible refine Below.set ?_ ?_ _); rotate_left; (simp <;> omega)) | (with_reducible refine Below.box_ ?_ _) | (with_reducible refine Below.next ?_ (by assumption))))
  have bb2 : Below w.heap.size w w2 := by (repeat (first | (with_reducible exact Below.refl _ _) | ((with_reducible refine Below.set ?_ ?_ _); rotate_left; (simp <;> omega)) | (with_reducible refine Below.box_ ?_ _) | (with_reducible refine Below.next ?_ (by assumption))))
  have hs1' := hid (Sl.below (Sl.below hs1 (show Below w1.heap.size w1 _ from (Below.refl _ _).alloc (Nat.le_refl _) _)) hb2)
  have ho1' := hid (Own.older (Own.below (Own.below ho1 (show Below w1.heap.size w1 _ from (Below.refl _ _).alloc (Nat.le_refl _) _)) hb2) (show w.heap.size ≤ _ by simp))
  have hs2' := hid hs2
  have ho2' := hid (Own.older ho2 (show w.heap.size ≤ _ by have := bb1.size; simp; omega))
  clear hs1 ho1 hs2 ho2 hb1 hb2 bb1
  go_loopg [5, 6] (val ys).toNat (fun g s0 s1 wr => ∃ (A B : Option Addr) (n m c d : Nat) (x y : List Int) (bs ds : List Nat), s0 = .slice A n c ∧ s1 = .slice B m d ∧ Hid (Sl wr A n c x bs) ∧ Hid (Own w wr bs) ∧ Hid (Sl wr B m d y ds) ∧ Hid (Own w wr ds) ∧ Hid (XN.Can x) ∧ Hid (XN.Can y) ∧ n ≤ 65536 ∧ m ≤ 65536 ∧ Hid (Int.gcd (val x) (val y) = Int.gcd (val xs) (val ys)) ∧ Hid (val y = g) ∧ Below w.heap.size w wr)
  case atStart => exact ⟨A1, A2, n, m, c1, c2, xs, ys, s1, s2, rfl, rfl, hs1', ho1', hs2', ho2', CX, CY, hn, hm, rfl, (Int.toNat_of_nonneg (val_nonneg CY.out.1)).symm, bb2⟩
  case round =>
    obtain ⟨A, B, n, m, c, d, x, y, bs, ds, rfl, rfl, hx, ox, hy, oy, cx, cy, hn, hm, hg, hk, hb⟩ := hrel
    clear hs1' ho1' hs2' ho2' bb2 hn' hm'
    have hl := hid (show y.length = m from hy.out.1)
    have hlx := hid (show x.length = n from hx.out.1)
    by_cases hm0 : 0 < m
    · have hyp := hid (cy.out.pos (by intro e; have := hl.out; rw [e] at this; simp at this; omega))
      by_cases hsm : n < 3 ∧ m < 3
      · have hn3 : (n : Int) < 3 := by omega
        have hm3 : (m : Int) < 3 := by omega
        have X0 := hid (val_nonneg cx.out.1)
        have Y0 := hid (val_nonneg cy.out.1)
        have X1 := hid (show val x ≤ 9223372036854775807 by
          have h1 := val_lt cx.out.1
          have h2 := pw_mono (show x.length ≤ 2 by rw [hlx.out]; omega)
          rw [pw_vals.2.1] at h2; omega)
        have Y1 := hid (show val y ≤ 9223372036854775807 by
          have h1 := val_lt cy.out.1
          have h2 := pw_mono (show y.length ≤ 2 by rw [hl.out]; omega)
          rw [pw_vals.2.1] at h2; omega)
        have hn2 := hid (show n ≤ 2 by omega)
        have hm2 := hid (show m ≤ 2 by omega)
        clear hsm
        go_wp2_with fail
        refine (spec_NatToInt A n c x bs wr hx.out cx.out hn2.out).mono ?_
        rintro _ w3 ⟨rfl, hb3⟩
        have hb3' := Below.next hb hb3
        go_wp2_with fail
        refine (spec_NatToInt B m d y ds w3 (Sl.below hy.out hb3) cy.out hm2.out).mono ?_
        rintro _ w4 ⟨rfl, hb4⟩
        have hb4' := Below.next hb3' hb4
        go_wp2_with fail
        refine (spec_l02Plain (val x) (val y) w4 X0.out Y0.out X1.out Y1.out).mono ?_
        rintro _ w5 ⟨v5, rfl, hown5, hb5⟩
        have hb5' := Below.next hb4' hb5
        rw [hg.out] at hown5
        go_wp2
        go_ret
        exact gives_row (ownsRow_base hown5 hb4'.size) rfl (dig_can _).1.i64 hb5'
      · have rl := hid (show (dig (val x % val y).toNat).length ≤ m from by
          refine dig_len ?_
          have h1 := Int.emod_lt_of_pos (val x) hyp.out
          have h2 := Int.emod_nonneg (val x) (show val y ≠ 0 by have := hyp.out; omega)
          have h3 := val_lt cy.out.1
          rw [hl.out] at h3
          omega)
        have r1 := hid (show Int.gcd (val y) (val (dig (val x % val y).toNat)) = Int.gcd (val xs) (val ys) by
          rw [val_dig, Int.toNat_of_nonneg (Int.emod_nonneg _ (by have := hyp.out; omega)), gcd_step]; exact hg.out)
        have r2 := hid (show val (dig (val x % val y).toNat) = ((val x % val y).toNat : Int) from val_dig _)
        have rm := hid (show (val x % val y).toNat < gk by
          have h1 := Int.emod_lt_of_pos (val x) hyp.out
          have h2 := hk.out
          have h3 := hyp.out
          omega)
        have CR := hid (dig_can (val x % val y).toNat)
        rcases Nat.lt_or_ge n 3 with h3 | h3
        · have hn3 : (n : Int) < 3 := by omega
          have hm3 : ¬ ((m : Int) < 3) := by omega
          clear hsm h3
          go_wp2_with fail
          refine (spec_l02Div A B n m c d x y bs ds wr hx.out hy.out cx.out cy.out hn hm0 hm).mono ?_
          rintro _ w1 ⟨A1, n1, c1, b1, A2, n2, c2, b2, rfl, hq, hr, ho, hb1⟩
          have HR := hid hr
          have HO := hid (Own.older (Own.right_ ho) hb.size)
          have HY1 := hid (Sl.below hy.out hb1)
          have OY1 := hid (Own.below oy.out hb1)
          have hb2 : Below w.heap.size w w1 := Below.next hb hb1
          have rn := hid (show n2 ≤ 65536 from Nat.le_trans (by rw [← hr.1]; exact rl.out) hm)
          clear hq hr ho hb hb1
          go_wp2_with fail
          go_roundg (val x % val y).toNat
          case measure => exact rm.out
          case rel => exact ⟨B, A2, m, n2, d, c2, y, _, ds, b2, rfl, rfl, HY1, OY1, HR, HO, cy, CR, hm, rn.out, r1, r2, hb2⟩
        · have hn3 : ¬ ((n : Int) < 3) := by omega
          clear hsm h3
          go_wp2_with fail
          refine (spec_l02Div A B n m c d x y bs ds wr hx.out hy.out cx.out cy.out hn hm0 hm).mono ?_
          rintro _ w1 ⟨A1, n1, c1, b1, A2, n2, c2, b2, rfl, hq, hr, ho, hb1⟩
          have HR := hid hr
          have HO := hid (Own.older (Own.right_ ho) hb.size)
          have HY1 := hid (Sl.below hy.out hb1)
          have OY1 := hid (Own.below oy.out hb1)
          have hb2 : Below w.heap.size w w1 := Below.next hb hb1
          have rn := hid (show n2 ≤ 65536 from Nat.le_trans (by rw [← hr.1]; exact rl.out) hm)
          clear hq hr ho hb hb1
          go_wp2_with fail
          go_roundg (val x % val y).toNat
          case measure => exact rm.out
          case rel => exact ⟨B, A2, m, n2, d, c2, y, _, ds, b2, rfl, rfl, HY1, OY1, HR, HO, cy, CR, hm, rn.out, r1, r2, hb2⟩
    · obtain rfl : m = 0 := by omega
      have e := hid (show x = dig (Int.gcd (val xs) (val ys)) by
        rw [← hg.out, show val y = 0 by rw [List.eq_nil_of_length_eq_zero hl.out]; rfl, Int.gcd_zero_right]
        exact (cx.out.dig_natAbs).symm)
      go_wp2
      go_ret
      rw [← e.out]
      exact ⟨A, n, c, bs, rfl, hx.out, ox.out, hb⟩

set_option maxHeartbeats 1000000 in
theorem spec_BigIntOk (v : Value) (x : TBigInt) (bs : List Nat) (w : World) (hx : Agg w v x bs) :
    Calls Tryd.prog 26 #[v] w (Gives w (.bool (bigOkB x))) := by
  obtain ⟨A1, n1, c1, s1, rfl, rfl, hs1⟩ := TBigInt.agg hx
  have H1 := hid hs1
  clear hs1 hx
  have E := hid (show bigOkB x = (natOkB x.mag && (!x.neg || decide (0 < n1))) by
    unfold bigOkB
    congr 1; congr 1
    rw [← H1.out.1]
    cases x.mag <;> simp)
  cases hn : natOkB x.mag
  · go_enter Tryd.func26, Tryd.ntmps26
    go_wp2_with fail
    have C := spec_NatOk A1 n1 c1 x.mag bs (w.alloc (.cells #[.bool x.neg, .slice A1 n1 c1] 31)) (Sl.below H1.out (by (repeat (first | (with_reducible exact Below.refl _ _) | ((with_reducible refine Below.set ?_ ?_ _); rotate_left; (simp <;> omega)) | (with_reducible refine Below.box_ ?_ _) | (with_reducible refine Below.next ?_ (by assumption))))))
    rw [hn] at C
    refine C.mono ?_
    clear C
    rintro _ w1 ⟨rfl, hb1⟩
    obtain ⟨hc_w1, hf_w1⟩ := bcell hb1
    have hz0_w1 : w.heap.size < w1.heap.size := by have := hb1.size; (try simp at this); omega
    go_wp2
    go_ret
    exact ⟨ret_bool (by rw [E.out, hn]; rfl), by (repeat (first | (with_reducible exact Below.refl _ _) | ((with_reducible refine Below.set ?_ ?_ _); rotate_left; (simp <;> omega)) | (with_reducible refine Below.box_ ?_ _) | (with_reducible refine Below.next ?_ (by assumption))))⟩
  · have HN := hid hn
    clear hn
    rw [HN.out, Bool.true_and] at E
    cases hg : x.neg
    · have E2 := hid (show true = bigOkB x by rw [E.out, hg]; rfl)
      clear E
      go_enter Tryd.func26, Tryd.ntmps26
      go_wp2_with fail
      have C := spec_NatOk A1 n1 c1 x.mag bs (w.alloc (.cells #[.bool false, .slice A1 n1 c1] 31)) (Sl.below H1.out (by (repeat (first | (with_reducible exact Below.refl _ _) | ((with_reducible refine Below.set ?_ ?_ _); rotate_left; (simp <;> omega)) | (with_reducible refine Below.box_ ?_ _) | (with_reducible refine Below.next ?_ (by assumption))))))
      rw [HN.out] at C
      refine C.mono ?_
      clear C
      rintro _ w1 ⟨rfl, hb1⟩
      obtain ⟨hc_w1, hf_w1⟩ := bcell hb1
      have hz0_w1 : w.heap.size < w1.heap.size := by have := hb1.size; (try simp at this); omega
      go_wp2
      go_ret
      exact ⟨ret_bool E2.out, by (repeat (first | (with_reducible exact Below.refl _ _) | ((with_reducible refine Below.set ?_ ?_ _); rotate_left; (simp <;> omega)) | (with_reducible refine Below.box_ ?_ _) | (with_reducible refine Below.next ?_ (by assumption))))⟩
    · have E2 := hid (show decide (0 < n1) = bigOkB x by rw [E.out, hg]; rfl)
      clear E
      go_enter Tryd.func26, Tryd.ntmps26
      go_wp2_with fail
      have C := spec_NatOk A1 n1 c1 x.mag bs (w.alloc (.cells #[.bool true, .slice A1 n1 c1] 31)) (Sl.below H1.out (by (repeat (first | (with_reducible exact Below.refl _ _) | ((with_reducible refine Below.set ?_ ?_ _); rotate_left; (simp <;> omega)) | (with_reducible refine Below.box_ ?_ _) | (with_reducible refine Below.next ?_ (by assumption))))))
      rw [HN.out] at C
      refine C.mono ?_
      clear C
      rintro _ w1 ⟨rfl, hb1⟩
      obtain ⟨hc_w1, hf_w1⟩ := bcell hb1
      have hz0_w1 : w.heap.size < w1.heap.size := by have := hb1.size; (try simp at this); omega
      go_wp2
      go_ret
      exact ⟨ret_bool E2.out, by (repeat (first | (with_reducible exact Below.refl _ _) | ((with_reducible refine Below.set ?_ ?_ _); rotate_left; (simp <;> omega)) | (with_reducible refine Below.box_ ?_ _) | (with_reducible refine Below.next ?_ (by assumption))))⟩

end Go.Proofs.YthlpjpcnpcclhaaDoor.X

/- The reference's numbers: l04One, BigIntOf, RatFromInt, l03Cmp. -/
namespace Go.Proofs.YthlpjpcnpcclhaaDoor.X
open Go.RowKit Go.XB Go.XN
attribute [local go_sem] fillBy opAt deps depOf Region.wanted yielded
attribute [local simp] deps depOf MP.eq MP.agg MP.sl Facts

set_option maxHeartbeats 1000000 in
theorem spec_l04One (A : Option Addr) (n c : Nat) (xs : List Int) (bs : List Nat) (w : World) (hx : Sl w A n c xs bs) :
    Calls Tryd.prog 28 #[.slice A n c] w (Gives w (.bool (decide (xs = [1])))) := by
  have HL := hid hx.1
  by_cases h1 : n = 1
  · subst h1
    obtain ⟨b, off, x, rfl, hbl, hx1, hI, hc⟩ := Sl.getInt hx (k := 0) (by decide)
    simp only [Nat.add_zero] at hc
    have e := hid (show (x == 1) = decide (xs = [1]) by
      have h := HL.out
      match xs, h with
      | [y], _ => simp at hx1; subst hx1; simp; rfl)
    clear hx hx1
    go_enter Tryd.func28, Tryd.ntmps28
    go_wp2
    go_ret
    exact ⟨ret_bool e.out, by (repeat (first | (with_reducible exact Below.refl _ _) | ((with_reducible refine Below.set ?_ ?_ _); rotate_left; (simp <;> omega)) | (with_reducible refine Below.box_ ?_ _) | (with_reducible refine Below.next ?_ (by assumption))))⟩
  · have e := hid (show decide (xs = [1]) = false by
      simp; intro h; apply h1; rw [← HL.out, h]; rfl)
    have hn : ((n : Int) == 1) = false := by simp; omega
    clear hx h1
    go_enter Tryd.func28, Tryd.ntmps28
    go_wp2
    go_ret
    exact ⟨ret_bool e.out.symm, by (repeat (first | (with_reducible exact Below.refl _ _) | ((with_reducible refine Below.set ?_ ?_ _); rotate_left; (simp <;> omega)) | (with_reducible refine Below.box_ ?_ _) | (with_reducible refine Below.next ?_ (by assumption))))⟩


theorem enc_neg (N : Nat) : (⟨true && decide (0 < (dig N).length), dig N⟩ : TBigInt) = encI (-(N : Int)) := by
  obtain ⟨h1, h2⟩ := enc_of (neg := true) (N := N) (v := -(N : Int)) (by simp)
  rw [← h2, ← h1]
theorem enc_pos (N : Nat) : (⟨false && decide (0 < (dig N).length), dig N⟩ : TBigInt) = encI (N : Int) := by
  obtain ⟨h1, h2⟩ := enc_of (neg := false) (N := N) (v := (N : Int)) (by simp)
  rw [← h2, ← h1]

theorem min_can : XN.Can [854775808, 223372036, 9] := ⟨Lims.cons (by decide) (by decide) (Lims.cons (by decide) (by decide) (Lims.one (by decide) (by decide))), by decide⟩
theorem enc_min : (⟨true && decide (0 < 3), [854775808, 223372036, 9]⟩ : TBigInt) = encI (-9223372036854775808) := by
  have h : val [854775808, 223372036, 9] = 9223372036854775808 := by decide
  generalize hN : (9223372036854775808 : Nat) = N
  have hv : val [854775808, 223372036, 9] = (N : Int) := by rw [h, ← hN]; rfl
  have e : [854775808, 223372036, 9] = dig N := min_can.of_val hv
  have e2 : (-9223372036854775808 : Int) = -(N : Int) := by rw [← hN]; rfl
  rw [e2, ← enc_neg, ← e]; rfl

end Go.Proofs.YthlpjpcnpcclhaaDoor.X

/- The reference's fractions: l04Low. -/
namespace Go.Proofs.YthlpjpcnpcclhaaDoor.X
open Go.RowKit Go.XB Go.XN
attribute [local go_sem] fillBy opAt deps depOf Region.wanted yielded
attribute [local simp] deps depOf MP.eq MP.agg MP.sl Facts

/-- the value of a magnitude with a sign -/
def sval (neg : Bool) (xs : List Int) : Int := if neg then -val xs else val xs
theorem low_mk {neg : Bool} {xs : List Int} {D : Int} (hc : XN.Can xs) (hD : 0 < D) :
    mkR (sval neg xs) D = if (dig (val xs / (Int.gcd (val xs) D : Nat)).toNat).length ≤ 24 ∧ (dig (D / (Int.gcd (val xs) D : Nat)).toNat).length ≤ 24 then
      ⟨⟨neg && decide (0 < (dig (val xs / (Int.gcd (val xs) D : Nat)).toNat).length), dig (val xs / (Int.gcd (val xs) D : Nat)).toNat⟩, dig (D / (Int.gcd (val xs) D : Nat)).toNat⟩ else zeroR := by
  have hg := gcd_pos_right (a := val xs) hD
  have e1 : sval neg xs = ival ⟨neg && decide (xs ≠ []), xs⟩ := by
    unfold sval ival
    by_cases h : xs = []
    · subst h; cases neg <;> simp [val]
    · cases neg <;> simp [h]
  have e2 : (neg && decide (0 < (dig (val xs / (Int.gcd (val xs) D : Nat)).toNat).length)) = (neg && decide (xs ≠ [])) := by
    congr 1
    by_cases h : xs = []
    · subst h
      have : val ([] : List Int) = 0 := rfl
      rw [this, Int.zero_ediv]; simp; rfl
    · have hp := hc.pos h
      have hq : 0 < val xs / (Int.gcd (val xs) D : Nat) := Int.ediv_pos_of_pos_of_dvd hp (by omega) (Int.gcd_dvd_left _ _)
      have : dig (val xs / (Int.gcd (val xs) D : Nat)).toNat ≠ [] := by rw [Ne, dig_nil]; omega
      simp [h, List.length_pos_iff.2 this]
  rw [e1, red_mk (x := ⟨neg && decide (xs ≠ []), xs⟩) hc (by intro h; simp at h; exact h.2) hD, e2]

end Go.Proofs.YthlpjpcnpcclhaaDoor.X

/- The reference's fractions: RatFromInt, RatOk. -/
namespace Go.Proofs.YthlpjpcnpcclhaaDoor.X
open Go.RowKit Go.XB Go.XN
attribute [local go_sem] fillBy opAt deps depOf Region.wanted yielded
attribute [local simp] deps depOf MP.eq MP.agg MP.sl Facts

theorem heap_alloc_old' (w : World) (o : Obj) (k : Nat) (h : k < w.heap.size) : (w.alloc o).heap[k]? = w.heap[k]? := (World.grownBy_alloc w o none).block k h (by simp)
theorem Above.alloc2 {lo : Nat} {w W : World} {o : Obj} (h : Above lo w W) (hs : W.heap.size = w.heap.size) : Above lo (w.alloc o) (W.alloc o) := by
  refine ⟨by simp [hs], fun b hb hl => ?_⟩
  simp at hl
  rcases Nat.lt_or_ge b w.heap.size with h1 | h1
  · rw [heap_alloc_old' W o b (by omega), heap_alloc_old' w o b h1]; exact h.block b hb h1
  · have e : b = w.heap.size := by omega
    have e1 := heap_alloc_new W o
    rw [hs] at e1
    rw [e, e1, heap_alloc_new w o]
theorem lit_sl (w : World) (xs : List Int) (hm : xs.length ≤ maxLen) (hi : ∀ x ∈ xs, I64 x) :
    ∃ bs, Sl (w.alloc (.cells (xs.map (.int .i64)).toArray 3)) (some ⟨w.heap.size, 0, none⟩) xs.length xs.length xs bs ∧ Own w (w.alloc (.cells (xs.map (.int .i64)).toArray 3)) bs := by
  obtain ⟨A', n', c', bs', e', hs', ho', _⟩ := gives_row (row_lit w xs hm) rfl hi (Below.box _)
  injection e' with e1
  injection e1 with e2 e3 e4
  subst e2; subst e3; subst e4
  exact ⟨bs', hs', ho'⟩

set_option maxHeartbeats 2000000 in
set_option maxRecDepth 10000 in
theorem spec_RatOk (v : Value) (x : TRat) (b : List Nat) (w : World) (hx : Agg w v x b) :
    Calls Tryd.prog 16 #[v] w (Gives w (.bool (ratOkB x))) := by
  obtain ⟨A1, n1, c1, s1, A2, n2, c2, s2, rfl, rfl, hs1, hs2⟩ := TRat.agg hx
  have H1 := hid hs1; have H2 := hid hs2
  have L1 := hid hs1.1; have L2 := hid hs2.1
  clear hs1 hs2 hx
  cases hb : bigOkB x.num
  · have HB := hid hb
    have E := hid (show false = ratOkB x by unfold ratOkB; rw [hb]; rfl)
    clear hb
    go_enter Tryd.func16, Tryd.ntmps16
    go_wp2_with fail
    have C := spec_BigIntOk _ x.num s1 (w.alloc (.cells #[.bool x.num.neg, .slice A1 n1 c1, .slice A2 n2 c2] 33)) (TBigInt.mkAgg (Sl.below H1.out (by (repeat (first | (with_reducible exact Below.refl _ _) | ((with_reducible refine Below.set ?_ ?_ _); rotate_left; (simp <;> omega)) | (with_reducible refine Below.box_ ?_ _) | (with_reducible refine Below.next ?_ (by assumption)))))))
    rw [HB.out] at C
    refine C.mono ?_
    clear C
    rintro _ w1 ⟨rfl, hb1⟩
    obtain ⟨hc_w1, hf_w1⟩ := bcell hb1
    have hz0_w1 : w.heap.size < w1.heap.size := by have := hb1.size; (try simp at this); omega
    go_wp2
    go_ret
    exact ⟨ret_bool E.out, by (repeat (first | (with_reducible exact Below.refl _ _) | ((with_reducible refine Below.set ?_ ?_ _); rotate_left; (simp <;> omega)) | (with_reducible refine Below.box_ ?_ _) | (with_reducible refine Below.next ?_ (by assumption))))⟩
  have HB := hid hb
  cases hn : natOkB x.den
  · have HN := hid hn
    have E := hid (show false = ratOkB x by unfold ratOkB; rw [hb, hn]; rfl)
    clear hb hn
    go_enter Tryd.func16, Tryd.ntmps16
    go_wp2_with fail
    have C := spec_BigIntOk _ x.num s1 (w.alloc (.cells #[.bool x.num.neg, .slice A1 n1 c1, .slice A2 n2 c2] 33)) (TBigInt.mkAgg (Sl.below H1.out (by (repeat (first | (with_reducible exact Below.refl _ _) | ((with_reducible refine Below.set ?_ ?_ _); rotate_left; (simp <;> omega)) | (with_reducible refine Below.box_ ?_ _) | (with_reducible refine Below.next ?_ (by assumption)))))))
    rw [HB.out] at C
    refine C.mono ?_
    clear C
    rintro _ w1 ⟨rfl, hb1⟩
    obtain ⟨hc_w1, hf_w1⟩ := bcell hb1
    have hz0_w1 : w.heap.size < w1.heap.size := by have := hb1.size; (try simp at this); omega
    go_wp2_with fail
    have C := spec_NatOk A2 n2 c2 x.den s2 w1 (Sl.below H2.out (by (repeat (first | (with_reducible exact Below.refl _ _) | ((with_reducible refine Below.set ?_ ?_ _); rotate_left; (simp <;> omega)) | (with_reducible refine Below.box_ ?_ _) | (with_reducible refine Below.next ?_ (by assumption))))))
    rw [HN.out] at C
    refine C.mono ?_
    clear C
    rintro _ w2 ⟨rfl, hb2⟩
    obtain ⟨hc_w2, hf_w2⟩ := bcell hb2
    have hz0_w2 : w.heap.size < w2.heap.size := by have := hb2.size; (try simp at this); omega
    go_wp2
    go_ret
    exact ⟨ret_bool E.out, by (repeat (first | (with_reducible exact Below.refl _ _) | ((with_reducible refine Below.set ?_ ?_ _); rotate_left; (simp <;> omega)) | (with_reducible refine Below.box_ ?_ _) | (with_reducible refine Below.next ?_ (by assumption))))⟩
  have HN := hid hn
  have CB := hid (bigOkB_iff.1 hb).1
  have CN := hid (natOkB_iff.1 hn)
  rcases Nat.eq_zero_or_pos n2 with h0 | h0
  · subst h0
    have E := hid (show false = ratOkB x by unfold ratOkB; rw [hb, hn, List.eq_nil_of_length_eq_zero L2.out]; rfl)
    clear hb hn
    go_enter Tryd.func16, Tryd.ntmps16
    go_wp2_with fail
    have C := spec_BigIntOk _ x.num s1 (w.alloc (.cells #[.bool x.num.neg, .slice A1 n1 c1, .slice A2 0 c2] 33)) (TBigInt.mkAgg (Sl.below H1.out (by (repeat (first | (with_reducible exact Below.refl _ _) | ((with_reducible refine Below.set ?_ ?_ _); rotate_left; (simp <;> omega)) | (with_reducible refine Below.box_ ?_ _) | (with_reducible refine Below.next ?_ (by assumption)))))))
    rw [HB.out] at C
    refine C.mono ?_
    clear C
    rintro _ w1 ⟨rfl, hb1⟩
    obtain ⟨hc_w1, hf_w1⟩ := bcell hb1
    have hz0_w1 : w.heap.size < w1.heap.size := by have := hb1.size; (try simp at this); omega
    go_wp2_with fail
    have C := spec_NatOk A2 0 c2 x.den s2 w1 (Sl.below H2.out (by (repeat (first | (with_reducible exact Below.refl _ _) | ((with_reducible refine Below.set ?_ ?_ _); rotate_left; (simp <;> omega)) | (with_reducible refine Below.box_ ?_ _) | (with_reducible refine Below.next ?_ (by assumption))))))
    rw [HN.out] at C
    refine C.mono ?_
    clear C
    rintro _ w2 ⟨rfl, hb2⟩
    obtain ⟨hc_w2, hf_w2⟩ := bcell hb2
    have hz0_w2 : w.heap.size < w2.heap.size := by have := hb2.size; (try simp at this); omega
    go_wp2
    go_ret
    exact ⟨ret_bool E.out, by (repeat (first | (with_reducible exact Below.refl _ _) | ((with_reducible refine Below.set ?_ ?_ _); rotate_left; (simp <;> omega)) | (with_reducible refine Below.box_ ?_ _) | (with_reducible refine Below.next ?_ (by assumption))))⟩
  have z0 : ((n2 : Int) == 0) = false := by simp; omega
  rcases Nat.lt_or_ge 24 n2 with h2 | h2
  · have E := hid (show false = ratOkB x by unfold ratOkB; rw [hb, hn, L2.out, show decide (n2 ≤ 24) = false by simp; omega]; simp)
    have z2 : (24 : Int) < n2 := by omega
    clear hb hn h2 h0
    go_enter Tryd.func16, Tryd.ntmps16
    go_wp2_with fail
    have C := spec_BigIntOk _ x.num s1 (w.alloc (.cells #[.bool x.num.neg, .slice A1 n1 c1, .slice A2 n2 c2] 33)) (TBigInt.mkAgg (Sl.below H1.out (by (repeat (first | (with_reducible exact Below.refl _ _) | ((with_reducible refine Below.set ?_ ?_ _); rotate_left; (simp <;> omega)) | (with_reducible refine Below.box_ ?_ _) | (with_reducible refine Below.next ?_ (by assumption)))))))
    rw [HB.out] at C
    refine C.mono ?_
    clear C
    rintro _ w1 ⟨rfl, hb1⟩
    obtain ⟨hc_w1, hf_w1⟩ := bcell hb1
    have hz0_w1 : w.heap.size < w1.heap.size := by have := hb1.size; (try simp at this); omega
    go_wp2_with fail
    have C := spec_NatOk A2 n2 c2 x.den s2 w1 (Sl.below H2.out (by (repeat (first | (with_reducible exact Below.refl _ _) | ((with_reducible refine Below.set ?_ ?_ _); rotate_left; (simp <;> omega)) | (with_reducible refine Below.box_ ?_ _) | (with_reducible refine Below.next ?_ (by assumption))))))
    rw [HN.out] at C
    refine C.mono ?_
    clear C
    rintro _ w2 ⟨rfl, hb2⟩
    obtain ⟨hc_w2, hf_w2⟩ := bcell hb2
    have hz0_w2 : w.heap.size < w2.heap.size := by have := hb2.size; (try simp at this); omega
    go_wp2
    go_ret
    exact ⟨ret_bool E.out, by (repeat (first | (with_reducible exact Below.refl _ _) | ((with_reducible refine Below.set ?_ ?_ _); rotate_left; (simp <;> omega)) | (with_reducible refine Below.box_ ?_ _) | (with_reducible refine Below.next ?_ (by assumption))))⟩
  have z2 : ¬ ((24 : Int) < n2) := by omega
  rcases Nat.lt_or_ge 24 n1 with h1 | h1
  · have E := hid (show false = ratOkB x by unfold ratOkB; rw [hb, hn, L1.out, show decide (n1 ≤ 24) = false by simp; omega]; simp)
    have z1 : (24 : Int) < n1 := by omega
    clear hb hn h2 h0 h1
    go_enter Tryd.func16, Tryd.ntmps16
    go_wp2_with fail
    have C := spec_BigIntOk _ x.num s1 (w.alloc (.cells #[.bool x.num.neg, .slice A1 n1 c1, .slice A2 n2 c2] 33)) (TBigInt.mkAgg (Sl.below H1.out (by (repeat (first | (with_reducible exact Below.refl _ _) | ((with_reducible refine Below.set ?_ ?_ _); rotate_left; (simp <;> omega)) | (with_reducible refine Below.box_ ?_ _) | (with_reducible refine Below.next ?_ (by assumption)))))))
    rw [HB.out] at C
    refine C.mono ?_
    clear C
    rintro _ w1 ⟨rfl, hb1⟩
    obtain ⟨hc_w1, hf_w1⟩ := bcell hb1
    have hz0_w1 : w.heap.size < w1.heap.size := by have := hb1.size; (try simp at this); omega
    go_wp2_with fail
    have C := spec_NatOk A2 n2 c2 x.den s2 w1 (Sl.below H2.out (by (repeat (first | (with_reducible exact Below.refl _ _) | ((with_reducible refine Below.set ?_ ?_ _); rotate_left; (simp <;> omega)) | (with_reducible refine Below.box_ ?_ _) | (with_reducible refine Below.next ?_ (by assumption))))))
    rw [HN.out] at C
    refine C.mono ?_
    clear C
    rintro _ w2 ⟨rfl, hb2⟩
    obtain ⟨hc_w2, hf_w2⟩ := bcell hb2
    have hz0_w2 : w.heap.size < w2.heap.size := by have := hb2.size; (try simp at this); omega
    go_wp2
    go_ret
    exact ⟨ret_bool E.out, by (repeat (first | (with_reducible exact Below.refl _ _) | ((with_reducible refine Below.set ?_ ?_ _); rotate_left; (simp <;> omega)) | (with_reducible refine Below.box_ ?_ _) | (with_reducible refine Below.next ?_ (by assumption))))⟩
  have z1 : ¬ ((24 : Int) < n1) := by omega
  have E := hid (show decide (dig (Int.gcd (val x.num.mag) (val x.den)) = [1]) = ratOkB x by
    unfold ratOkB
    rw [hb, hn, L1.out, L2.out, decide_eq_true h1, decide_eq_true h2]
    have : x.den.isEmpty = false := by
      cases hd : x.den with
      | nil => have := L2.out; rw [hd] at this; simp at this; omega
      | cons _ _ => rfl
    rw [this]
    simp only [Bool.not_false, Bool.true_and]
    congr 1
    rw [eq_iff_iff]
    refine ⟨fun h => ?_, fun h => by rw [h]; rfl⟩
    have h3 := val_dig (Int.gcd (val x.num.mag) (val x.den))
    rw [h] at h3
    have h4 : val [1] = 1 := rfl
    omega)
  have hn1 := hid (show n1 ≤ 65536 by omega)
  have hn2 := hid (show n2 ≤ 65536 by omega)
  clear hb hn h0 h1 h2
  go_enter Tryd.func16, Tryd.ntmps16
  go_wp2_with fail
  have C := spec_BigIntOk _ x.num s1 (w.alloc (.cells #[.bool x.num.neg, .slice A1 n1 c1, .slice A2 n2 c2] 33)) (TBigInt.mkAgg (Sl.below H1.out (by (repeat (first | (with_reducible exact Below.refl _ _) | ((with_reducible refine Below.set ?_ ?_ _); rotate_left; (simp <;> omega)) | (with_reducible refine Below.box_ ?_ _) | (with_reducible refine Below.next ?_ (by assumption)))))))
  rw [HB.out] at C
  refine C.mono ?_
  clear C
  rintro _ w1 ⟨rfl, hb1⟩
  obtain ⟨hc_w1, hf_w1⟩ := bcell hb1
  have hz0_w1 : w.heap.size < w1.heap.size := by have := hb1.size; (try simp at this); omega
  go_wp2_with fail
  have C := spec_NatOk A2 n2 c2 x.den s2 w1 (Sl.below H2.out (by (repeat (first | (with_reducible exact Below.refl _ _) | ((with_reducible refine Below.set ?_ ?_ _); rotate_left; (simp <;> omega)) | (with_reducible refine Below.box_ ?_ _) | (with_reducible refine Below.next ?_ (by assumption))))))
  rw [HN.out] at C
  refine C.mono ?_
  clear C
  rintro _ w2 ⟨rfl, hb2⟩
  obtain ⟨hc_w2, hf_w2⟩ := bcell hb2
  have hz0_w2 : w.heap.size < w2.heap.size := by have := hb2.size; (try simp at this); omega
  go_wp2_with fail
  have b12 : Below w.heap.size w w2 := by (repeat (first | (with_reducible exact Below.refl _ _) | ((with_reducible refine Below.set ?_ ?_ _); rotate_left; (simp <;> omega)) | (with_reducible refine Below.box_ ?_ _) | (with_reducible refine Below.next ?_ (by assumption))))
  refine (spec_l02Gcd A1 A2 n1 n2 c1 c2 x.num.mag x.den _ _ w2 (Sl.below H1.out b12) (Sl.below H2.out b12) CB.out.2 CN.out.2 hn1.out hn2.out).mono ?_
  rintro _ w3 ⟨A4, n4, c4, s4, rfl, hs4, ho4, hb4⟩
  have HS4 := hid hs4
  clear hs4 ho4
  obtain ⟨hc_w3, hf_w3⟩ := bcell hb4
  have hz0_w3 : w.heap.size < w3.heap.size := by have := hb4.size; (try simp at this); omega
  go_wp2_with fail
  have C := spec_l04One A4 n4 c4 _ s4 w3 HS4.out
  rw [E.out] at C
  refine C.mono ?_
  clear C
  rintro _ w5 ⟨rfl, hb5⟩
  have b5 := Below.next (Below.next b12 hb4) hb5
  go_wp2
  go_ret
  exact ⟨rfl, b5⟩
end Go.Proofs.YthlpjpcnpcclhaaDoor.X

/- The reference's numbers: l03Add. -/
namespace Go.Proofs.YthlpjpcnpcclhaaDoor.X
open Go.RowKit Go.XB Go.XN
attribute [local go_sem] fillBy opAt deps depOf Region.wanted yielded
attribute [local simp] deps depOf MP.eq MP.agg MP.sl Facts

theorem enc_mk {neg : Bool} {N n : Nat} {v : Int} (E : (encI v).mag = dig N ∧ (encI v).neg = (neg && decide (0 < (dig N).length))) (hl : (encI v).mag.length = n) : (⟨neg && decide (0 < n), (encI v).mag⟩ : TBigInt) = encI v := by
  rw [← hl, E.1, ← E.2, ← E.1]
theorem row_gives {w w' : World} {xs : List Int} {e : Ending} (hi : ∀ x ∈ xs, I64 x) (h : GivesRow w 3 xs e w') : GivesSl w xs e w' := by
  obtain ⟨v, rfl, ho, hb⟩ := h
  exact gives_row ho rfl hi hb
theorem sum_len {k : Nat} {xs ys : List Int} (hx : Lims xs) (hy : Lims ys) (lx : xs.length ≤ k) (ly : ys.length ≤ k) : (dig (val xs + val ys).toNat).length ≤ k + 1 := by
  have h1 := val_lt hx; have h2 := val_lt hy
  have h3 := pw_mono lx; have h4 := pw_mono ly
  have h5 := val_nonneg hx; have h6 := val_nonneg hy
  refine dig_len ?_
  rw [pw_succ]; omega
theorem sub_len {k : Nat} {xs ys : List Int} (hx : Lims xs) (hy : Lims ys) (lx : xs.length ≤ k) : (dig (val xs - val ys).toNat).length ≤ k + 1 := by
  have h1 := val_lt hx
  have h3 := pw_mono lx
  have h5 := val_nonneg hx; have h6 := val_nonneg hy
  have h7 := pw_pos k
  refine dig_len ?_
  rw [pw_succ]; omega

end Go.Proofs.YthlpjpcnpcclhaaDoor.X

/- The reference's fractions: l04Mul, l03Cmp, l04Cmp. -/
namespace Go.Proofs.YthlpjpcnpcclhaaDoor.X
open Go.RowKit Go.XB Go.XN
attribute [local go_sem] fillBy opAt deps depOf Region.wanted yielded
attribute [local simp] deps depOf MP.eq MP.agg MP.sl Facts
set_option linter.constructorNameAsVariable false

theorem sval_mul {x y : TBigInt} (hx : Lims x.mag) (hy : Lims y.mag) : sval (x.neg != y.neg) (dig (val x.mag * val y.mag).toNat) = ival x * ival y := by
  rw [mul_val hx hy]; unfold sval; rw [val_dig]
theorem nd_mul {x : TBigInt} {ys : List Int} (hx : Lims x.mag) (hy : Lims ys) : ival x * val ys = if x.neg then -((val x.mag * val ys).toNat : Int) else (val x.mag * val ys).toNat := by
  have h := Int.mul_nonneg (val_nonneg hx) (val_nonneg hy)
  rw [Int.toNat_of_nonneg h]
  unfold ival
  cases x.neg <;> simp [Int.neg_mul]
theorem mul_len {k m : Nat} {xs ys : List Int} (hx : Lims xs) (hy : Lims ys) (lx : xs.length ≤ k) (ly : ys.length ≤ m) : (dig (val xs * val ys).toNat).length ≤ k + m := by
  have h1 := val_lt hx; have h2 := val_lt hy
  have h3 := pw_mono lx; have h4 := pw_mono ly
  have h5 := val_nonneg hx; have h6 := val_nonneg hy
  have h7 := Int.mul_nonneg h5 h6
  refine dig_len ?_
  rw [Int.toNat_of_nonneg h7, pw_add]
  have h8 : val xs * val ys ≤ val xs * pw m := Int.mul_le_mul_of_nonneg_left (by omega) h5
  have h9 : val xs * pw m < pw k * pw m := Int.mul_lt_mul_of_pos_right (by omega) (pw_pos m)
  omega

theorem nd_mk {r s : TRat} {n : Nat} (hx : Lims r.num.mag) (hy : Lims s.den) (hl : (dig (val r.num.mag * val s.den).toNat).length = n) : (⟨r.num.neg && decide (0 < n), dig (val r.num.mag * val s.den).toNat⟩ : TBigInt) = encI (numv r * denv s) := by
  have E := enc_of (nd_mul hx hy)
  have h : numv r * denv s = ival r.num * val s.den := rfl
  rw [h, ← hl, ← E.2, ← E.1]

end Go.Proofs.YthlpjpcnpcclhaaDoor.X

/- The reference's fractions: l04Copy, l04Neg. -/
namespace Go.Proofs.YthlpjpcnpcclhaaDoor.X
open Go.RowKit Go.XB Go.XN

/-- an empty slice that is not nil -/
def MP.lit0 : MP := ⟨fun v bs _ => (∃ g, v = .slice (some ⟨g, 0, none⟩) 0 0) ∧ bs = [], fun _ _ _ _ _ h => h⟩

theorem run_execOp_append {P : Program} {w w' : World} {o : Oper} {ev : Operand → Value} {v v1 v2 : Value} (s x : Operand) (t : TypeId) (ho : o.op = .call { callee := .builtin .append, args := #[s, x], argTypes := #[t, t] }) (hs : ev s = v1) (hx : ev x = v2)
    (hrun : (Builtin.append_ #[t, t] o.type #[v1, v2]).run P w = .ok v w') : (execOp ev o).run P w = .ok (.value v) w' := by
  simp [execOp, ho, resolve, invoke, builtin, hs, hx, hrun, Result.andThen]

attribute [local go_sem] fillBy opAt deps depOf Region.wanted yielded
attribute [local simp] deps depOf MP.eq MP.agg MP.sl MP.lit0 Facts
set_option linter.constructorNameAsVariable false

theorem neg_mk {x : TBigInt} {n : Nat} (hc : XN.Can x.mag) (hl : x.mag.length = n) : (⟨!x.neg && decide (0 < n), x.mag⟩ : TBigInt) = encI (-ival x) := by
  have e : x.mag = dig (val x.mag).toNat := hc.eq_dig
  have E := enc_of (neg := !x.neg) (N := (val x.mag).toNat) (v := -ival x) (by unfold ival; rw [Int.toNat_of_nonneg (val_nonneg hc.1)]; cases x.neg <;> simp)
  rw [← e] at E
  rw [← hl, ← E.2]
  exact congrArg (TBigInt.mk _) E.1.symm

end Go.Proofs.YthlpjpcnpcclhaaDoor.X
