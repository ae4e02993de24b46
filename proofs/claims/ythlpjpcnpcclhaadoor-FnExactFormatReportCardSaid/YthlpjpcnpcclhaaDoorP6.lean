/- The program's fractions, first part. No condition. -/
import Derived.Test.YthlpjpcnpcclhaaDoorP5
import Derived.Test.YthlpjpcnpcclhaaDoorP3
import Derived.Deep.LoopGhost
/- The program's fractions, first part: natGcd, gcd, isOne, signed, BigIntOf. -/
namespace Go.Proofs.YthlpjpcnpcclhaaDoor.X
open Go.RowKit Go.XB Go.XN
attribute [local go_sem] fillBy opAt deps depOf Region.wanted yielded
attribute [local simp] deps depOf MP.eq Facts

theorem gcd_step {a b : Int} : Int.gcd b (a % b) = Int.gcd a b := by
  have h := Int.gcd_add_mul_left_right b (a % b) (a / b)
  rw [Int.emod_add_mul_ediv] at h
  rw [← h, Int.gcd_comm]
theorem ownsRow_base {w : World} {b b' : Nat} {e : TypeId} {size : Nat} {v : Value} {n : Nat} {xs : List Value} (h : w.ownsRow b e size v n xs) (hb : b' ≤ b) : w.ownsRow b' e size v n xs := by
  refine ⟨h.1, ?_⟩
  rcases h.2 with h2 | ⟨g, cap, cur, h1, h2, h3⟩
  · exact .inl h2
  · exact .inr ⟨g, cap, cur, h1, Nat.le_trans hb h2, h3⟩

set_option maxHeartbeats 1000000 in
theorem impl_natGcd (A B : Option Addr) (n m c d : Nat) (xs ys : List Int) (bs ds : List Nat) (w : World) (hx : Sl w A n c xs bs) (hy : Sl w B m d ys ds) (hcx : XN.Can xs) (hcy : XN.Can ys) (hn : n ≤ 65536) (hm : m ≤ 65536) :
    Calls Tryd.prog 54 #[.slice A n c, .slice B m d] w (GivesRow w 3 (dig (Int.gcd (val xs) (val ys)))) := by
  have HX := hid hx
  have HY := hid hy
  have CX := hid hcx
  have CY := hid hcy
  clear hx hy hcx hcy
  go_enter Tryd.func54, Tryd.ntmps54
  go_wp2_with fail
  go_loopg [0, 1, 6] (val ys).toNat (fun g s0 s1 s6 wr => ∃ (A B : Option Addr) (n m c d : Nat) (x y : List Int) (bs ds : List Nat), s0 = .slice A n c ∧ s1 = .slice B m d ∧ Hid (Sl wr A n c x bs) ∧ Hid (Sl wr B m d y ds) ∧ Hid (XN.Can x) ∧ Hid (XN.Can y) ∧ n ≤ 65536 ∧ m ≤ 65536 ∧ Hid (Int.gcd (val x) (val y) = Int.gcd (val xs) (val ys)) ∧ Hid (val y = g) ∧ Below w.heap.size w wr)
  case atStart => exact ⟨A, B, n, m, c, d, xs, ys, bs, ds, rfl, rfl, HX.out, HY.out, CX, CY, hn, hm, rfl, (Int.toNat_of_nonneg (val_nonneg CY.out.1)).symm, Below.refl _ _⟩
  case round =>
    obtain ⟨A, B, n, m, c, d, x, y, bs, ds, rfl, rfl, hx, hy, cx, cy, hn, hm, hg, hk, hb⟩ := hrel
    have hl := hid (show y.length = m from hy.out.1)
    by_cases hm0 : 0 < m
    · have hyp := hid (cy.out.pos (by intro e; have := hl.out; rw [e] at this; simp at this; omega))
      go_wp2_with fail
      refine (impl_natDiv A B n m c d x y bs ds wr hx.out hy.out cx.out cy.out hn hm0).mono ?_
      rintro _ w1 ⟨A1, n1, c1, b1, A2, n2, c2, b2, rfl, hq, hr, ho, hb1⟩
      have HR := hid hr
      have HY1 := hid (Sl.below hy.out hb1)
      have hb2 : Below w.heap.size w w1 := Below.next hb hb1
      have rl := hid (show n2 ≤ m by
        rw [← hr.1]
        refine dig_len ?_
        have h1 := Int.emod_lt_of_pos (val x) hyp.out
        have h2 := Int.emod_nonneg (val x) (show val y ≠ 0 by have := hyp.out; omega)
        have h3 := val_lt cy.out.1
        rw [hl.out] at h3
        omega)
      have r1 := hid (show Int.gcd (val y) (val (dig (val x % val y).toNat)) = Int.gcd (val xs) (val ys) by
        rw [val_dig, Int.toNat_of_nonneg (Int.emod_nonneg _ (by have := hyp.out; omega)), gcd_step]; exact hg.out)
      have r2 := hid (show val (dig (val x % val y).toNat) = ((val x % val y).toNat : Int) from val_dig _)
      have rm := hid (show (val x % val y).toNat < gk by
        have h1 := Int.emod_lt_of_pos (val x) hyp.out
        have h2 := hk.out
        have h3 := hyp.out
        omega)
      have rn := hid (show n2 ≤ 65536 from Nat.le_trans rl.out hm)
      clear hq hr ho hb hb1
      have CR := hid (dig_can (val x % val y).toNat)
      go_wp2_with fail
      go_roundg (val x % val y).toNat
      case measure => exact rm.out
      case rel => exact ⟨B, A2, m, n2, d, c2, y, _, ds, b2, rfl, rfl, HY1.out, HR.out, cy, CR.out, hm, rn.out, r1.out, r2.out, hb2⟩
    · obtain rfl : m = 0 := by omega
      have e := hid (show x = dig (Int.gcd (val xs) (val ys)) by
        rw [← hg.out, show val y = 0 by rw [List.eq_nil_of_length_eq_zero hl.out]; rfl, Int.gcd_zero_right]
        exact (cx.out.dig_natAbs).symm)
      go_wp2_with fail
      refine (clone_row A n c x bs wr hx.out (Nat.le_trans hn (by decide))).mono ?_
      rintro _ w1 ⟨v1, rfl, hown, hb1⟩
      have hb2 : Below w.heap.size w w1 := Below.next hb hb1
      have hown1 := ownsRow_base hown hb.size
      rw [e.out] at hown1
      go_wp2
      go_ret
      exact ⟨_, rfl, hown1, hb2⟩
end Go.Proofs.YthlpjpcnpcclhaaDoor.X

/- The program's fractions: gcd, isOne, signed, BigIntOf. -/
namespace Go.Proofs.YthlpjpcnpcclhaaDoor.X
open Go.RowKit Go.XB Go.XN
attribute [local go_sem] fillBy opAt deps depOf Region.wanted yielded
attribute [local simp] deps depOf MP.eq Facts

set_option maxHeartbeats 1000000 in
theorem impl_gcd (a b : Int) (w : World) (ha : 0 ≤ a) (hb : 0 ≤ b) (ha1 : a ≤ 9223372036854775807) (hb1 : b ≤ 9223372036854775807) :
    Calls Tryd.prog 53 #[.int .i64 a, .int .i64 b] w (Gives w (.int .i64 (Int.gcd a b))) := by
  go_enter Tryd.func53, Tryd.ntmps53
  go_wp2_with fail
  go_loopg [0, 1] b.toNat (fun g s0 s1 wr => ∃ x y : Int, s0 = .int .i64 x ∧ s1 = .int .i64 y ∧ 0 ≤ x ∧ x ≤ 9223372036854775807 ∧ 0 ≤ y ∧ y ≤ 9223372036854775807 ∧ Hid (Int.gcd x y = Int.gcd a b) ∧ Hid (y = g) ∧ Below w.heap.size w wr)
  case atStart => exact ⟨a, b, rfl, rfl, ha, ha1, hb, hb1, rfl, (Int.toNat_of_nonneg hb).symm, Below.refl _ _⟩
  case round =>
    obtain ⟨x, y, rfl, rfl, hx0, hx1, hy0, hy1, hg, hk, hbw⟩ := hrel
    by_cases hy : 0 < y
    · have r0 := hid (show 0 ≤ x % y ∧ x % y < y from ⟨Int.emod_nonneg _ (by omega), Int.emod_lt_of_pos _ hy⟩)
      have r1 := hid (show Int.gcd y (x % y) = Int.gcd a b by rw [gcd_step]; exact hg.out)
      have rm := hid (show (x % y).toNat < gk ∧ x % y ≤ 9223372036854775807 ∧ x % y = ((x % y).toNat : Int) by have := r0.out; have := hk.out; omega)
      go_wp2_with fail
      refine wp_region_walk (by kernel_rfl) (by kernel_rfl) (by kernel_rfl) ?_
      iterate 3
        apply walkM_eq
        case h =>
          intro yq zq wq hC hd
          obtain ⟨hcq, hfq⟩ := bcell hC
          simp at hd
          refine ⟨by go_simp; done, ?_⟩
          go_simp
          first | (go_ints; exact rfl) | (go_ints; rw [if_pos (by omega)]; try exact rfl) | exact rfl | (rw [if_pos (by omega)]; try exact rfl)
      refine walkM_eq (Value.int .i64 (x % y)) ?_ ?_
      · intro yq zq wq hC hd
        obtain ⟨hcq, hfq⟩ := bcell hC
        simp at hd
        refine ⟨by go_simp; done, ?_⟩
        go_simp
        rw [if_neg (by omega), Int.tmod_eq_emod_of_nonneg hx0]
      iterate 2
        apply walkM_eq
        case h =>
          intro yq zq wq hC hd
          obtain ⟨hcq, hfq⟩ := bcell hC
          simp at hd
          refine ⟨by go_simp; done, ?_⟩
          go_simp
          first | (go_ints; exact rfl) | (go_ints; rw [if_pos (by omega)]; try exact rfl) | exact rfl | (rw [if_pos (by omega)]; try exact rfl)
      intro yq zq wa hC hd hdis0
      have hdis := hid hdis0
      clear hdis0
      simp at hd
      go_simp
      clear hd hdis
      have hb2 := Below.next hbw hC
      clear hC
      go_wp2_with fail
      go_roundg (x % y).toNat
      case measure => exact rm.out.1
      case rel => exact ⟨y, x % y, rfl, rfl, hy0, hy1, r0.out.1, rm.out.2.1, r1, rm.out.2.2, hb2⟩
    · obtain rfl : y = 0 := by omega
      have e := hid (show x = (Int.gcd a b : Int) by rw [← hg.out, Int.gcd_zero_right]; omega)
      go_wp2
      go_ret
      exact ⟨ret_int e.out, hbw⟩

set_option maxHeartbeats 1000000 in
theorem impl_isOne (A : Option Addr) (n c : Nat) (xs : List Int) (bs : List Nat) (w : World) (hx : Sl w A n c xs bs) :
    Calls Tryd.prog 37 #[.slice A n c] w (Gives w (.bool (decide (xs = [1])))) := by
  have HL := hid hx.1
  by_cases h1 : n = 1
  · subst h1
    obtain ⟨b, off, x, rfl, hbl, hx1, hI, hc⟩ := Sl.getInt hx (k := 0) (by decide)
    simp only [Nat.add_zero] at hc
    have e := hid (show (x == 1) = decide (xs = [1]) by
      have h := HL.out
      match xs, h with
      | [y], _ => simp at hx1; subst hx1; simp; rfl)
    clear hx hx1
    go_enter Tryd.func37, Tryd.ntmps37
    go_wp2
    go_ret
    exact ⟨ret_bool e.out, by (repeat (first | (with_reducible exact Below.refl _ _) | ((with_reducible refine Below.set ?_ ?_ _); rotate_left; (simp <;> omega)) | (with_reducible refine Below.box_ ?_ _) | (with_reducible refine Below.next ?_ (by assumption))))⟩
  · have e := hid (show decide (xs = [1]) = false by
      simp; intro h; apply h1; rw [← HL.out, h]; rfl)
    have hn : ((n : Int) == 1) = false := by simp; omega
    clear hx h1
    go_enter Tryd.func37, Tryd.ntmps37
    go_wp2
    go_ret
    exact ⟨ret_bool e.out.symm, by (repeat (first | (with_reducible exact Below.refl _ _) | ((with_reducible refine Below.set ?_ ?_ _); rotate_left; (simp <;> omega)) | (with_reducible refine Below.box_ ?_ _) | (with_reducible refine Below.next ?_ (by assumption))))⟩

theorem u64_neg {n : Int} (h0 : n < 0) (h1 : -9223372036854775808 ≤ n) : IntKind.u64.wrap (-IntKind.u64.wrap n) = -n := by
  simp [IntKind.wrap, IntKind.signed, IntKind.bits]; omega
theorem fin_sl {α : Type} [Dat α] {w w0 u W : World} {lo : Nat} {A : Option Addr} {n c : Nat} {xs : List α} {bs : List Nat} (h : Sl u A n c xs bs) (ho : Own w0 u bs) (hs : w.heap.size ≤ w0.heap.size) (hl : lo ≤ w0.heap.size) (ha : Above lo u W) : Sl W A n c xs bs ∧ Own w W bs :=
  ⟨Sl.above h ho ha hl, (ho.above ha hl).older hs⟩

end Go.Proofs.YthlpjpcnpcclhaaDoor.X

/- The program's fractions: bigMul, bigAdd. -/
namespace Go.Proofs.YthlpjpcnpcclhaaDoor.X
open Go.RowKit Go.XB Go.XN
attribute [local go_sem] fillBy opAt deps depOf Region.wanted yielded
attribute [local simp] deps depOf MP.eq MP.agg MP.sl Facts

theorem _root_.Go.XN.enc_of {neg : Bool} {N : Nat} {v : Int} (hv : v = if neg then -(N : Int) else N) : (encI v).mag = dig N ∧ (encI v).neg = (neg && decide (0 < (dig N).length)) := by
  have := sign_enc (neg := neg) (dig_can N) (v := v) (by rw [val_dig]; exact hv)
  rw [← this]
  refine ⟨rfl, ?_⟩
  cases dig N <;> simp
theorem _root_.Go.XN.mul_val {x y : TBigInt} (hx : Lims x.mag) (hy : Lims y.mag) : ival x * ival y = if x.neg != y.neg then -((val x.mag * val y.mag).toNat : Int) else (val x.mag * val y.mag).toNat := by
  have h := Int.mul_nonneg (val_nonneg hx) (val_nonneg hy)
  rw [Int.toNat_of_nonneg h]
  unfold ival
  cases x.neg <;> cases y.neg <;> simp [Int.neg_mul, Int.mul_neg]
/-- what a magnitude of the call's own, with a sign, gives -/
theorem big_fin {w W : World} {t : Int} {A : Option Addr} {n c : Nat} {bs : List Nat} (h : Sl W A n c (encI t).mag bs ∧ Own w W bs) (hb : Below w.heap.size w W) : GivesAgg w (encI t) (.returned (.agg #[.bool (encI t).neg, .slice A n c])) W :=
  ⟨_, bs, rfl, TBigInt.mkAgg h.1, h.2, hb⟩

theorem fin_own {α : Type} [Dat α] {w u W : World} {lo : Nat} {A : Option Addr} {n c : Nat} {xs : List α} {bs : List Nat} (h : Sl u A n c xs bs) (hf : Free u bs) (hr : ∀ b ∈ bs, lo ≤ b) (hl : w.heap.size ≤ lo) (ha : Above lo u W) : Sl W A n c xs bs ∧ Own w W bs :=
  have hk : ∀ g ∈ bs, W.heap[g]? = u.heap[g]? := fun g hg => ha.block g (hr g hg) (h.lt g hg)
  ⟨h.keep hk, hf.1, fun b hb => ⟨Nat.le_trans hl (hr b hb), by obtain ⟨cs, t, e⟩ := hf.2 b hb; exact ⟨cs, t, (hk b hb).trans e⟩⟩⟩

end Go.Proofs.YthlpjpcnpcclhaaDoor.X

/- The program's fractions: bigAdd, bigCmp. -/
namespace Go.Proofs.YthlpjpcnpcclhaaDoor.X
open Go.RowKit Go.XB Go.XN
attribute [local go_sem] fillBy opAt deps depOf Region.wanted yielded
attribute [local simp] deps depOf MP.eq MP.agg MP.sl Facts

theorem _root_.Go.XN.add_same {x y : TBigInt} (hx : Lims x.mag) (hy : Lims y.mag) (h : x.neg = y.neg) : ival x + ival y = if x.neg then -((val x.mag + val y.mag).toNat : Int) else (val x.mag + val y.mag).toNat := by
  have h1 := val_nonneg hx; have h2 := val_nonneg hy
  unfold ival
  rw [← h]
  cases x.neg <;> simp <;> omega
theorem _root_.Go.XN.add_ge {x y : TBigInt} (h : ¬ x.neg = y.neg) (hle : val y.mag ≤ val x.mag) : ival x + ival y = if x.neg then -((val x.mag - val y.mag).toNat : Int) else (val x.mag - val y.mag).toNat := by
  unfold ival
  cases hx : x.neg <;> cases hy : y.neg <;> simp_all <;> omega
theorem _root_.Go.XN.add_lt {x y : TBigInt} (h : ¬ x.neg = y.neg) (hle : val x.mag ≤ val y.mag) : ival x + ival y = if y.neg then -((val y.mag - val x.mag).toNat : Int) else (val y.mag - val x.mag).toNat := by
  unfold ival
  cases hx : x.neg <;> cases hy : y.neg <;> simp_all <;> omega

end Go.Proofs.YthlpjpcnpcclhaaDoor.X

/- The program's fractions: bigCmp, signOf, within, sign, isSmall, small. -/
namespace Go.Proofs.YthlpjpcnpcclhaaDoor.X
open Go.RowKit Go.XB Go.XN
attribute [local go_sem] fillBy opAt deps depOf Region.wanted yielded
attribute [local simp] deps depOf MP.eq MP.agg MP.sl Facts

/-- a number whose sign says that it is not 0 -/
def NegOk (x : TBigInt) : Prop := x.neg = true → x.mag ≠ []
theorem NegOk.lt {x : TBigInt} (h : NegOk x) (hc : XN.Can x.mag) (hn : x.neg = true) : ival x < 0 := by
  have := hc.pos (h hn)
  unfold ival; rw [if_pos hn]; omega
theorem NegOk.ge {x : TBigInt} (hc : XN.Can x.mag) (hn : x.neg = false) : 0 ≤ ival x := by
  have := val_nonneg hc.1
  unfold ival; rw [if_neg (by simp [hn])]; omega
theorem sgn_neg1 {a : Int} (h : a < 0) : sgn a = -1 := by unfold sgn; rw [if_pos h]
theorem sgn_pos1 {a : Int} (h : 0 < a) : sgn a = 1 := by unfold sgn; rw [if_neg (by omega), if_pos h]
theorem sgn_zero {a : Int} (h : a = 0) : sgn a = 0 := by subst h; rfl

def inB (lo n hi : Int) : Bool := decide (lo ≤ n) && decide (n ≤ hi)

set_option maxHeartbeats 400000 in
theorem impl_within (n lo hi : Int) (w : World) : Calls Tryd.prog 69 #[.int .i64 n, .int .i64 lo, .int .i64 hi] w (Gives w (.bool (inB lo n hi))) := by
  rcases Int.lt_or_le n lo with h | h
  · have E := hid (show false = inB lo n hi by unfold inB; simp; omega)
    have h' : ¬ (lo ≤ n) := by omega
    go_enter Tryd.func69, Tryd.ntmps69
    go_wp2
    go_ret
    exact ⟨ret_bool E.out, by (repeat (first | (with_reducible exact Below.refl _ _) | ((with_reducible refine Below.set ?_ ?_ _); rotate_left; (simp <;> omega)) | (with_reducible refine Below.box_ ?_ _) | (with_reducible refine Below.next ?_ (by assumption))))⟩
  · have E := hid (show decide (n ≤ hi) = inB lo n hi by unfold inB; simp [h])
    go_enter Tryd.func69, Tryd.ntmps69
    go_wp2
    go_ret
    exact ⟨ret_bool E.out, by (repeat (first | (with_reducible exact Below.refl _ _) | ((with_reducible refine Below.set ?_ ?_ _); rotate_left; (simp <;> omega)) | (with_reducible refine Below.box_ ?_ _) | (with_reducible refine Below.next ?_ (by assumption))))⟩

def smallB (x : TRat) : Bool := decide (x.num.mag.length ≤ 1) && decide (x.den.length = 1)

set_option maxHeartbeats 1000000 in
theorem impl_isSmall (v : Value) (x : TRat) (b : List Nat) (w : World) (hx : Agg w v x b) :
    Calls Tryd.prog 51 #[v] w (Gives w (.bool (smallB x))) := by
  obtain ⟨A1, n1, c1, s1, A2, n2, c2, s2, rfl, rfl, hs1, hs2⟩ := TRat.agg hx
  have L1 := hid hs1.1; have L2 := hid hs2.1
  clear hs1 hs2 hx
  rcases Nat.lt_or_ge 1 n1 with h0 | h0
  · have E := hid (show false = smallB x by unfold smallB; rw [L1.out]; simp; omega)
    have hz : ¬ ((n1 : Int) ≤ 1) := by omega
    go_enter Tryd.func51, Tryd.ntmps51
    go_wp2
    go_ret
    exact ⟨ret_bool E.out, by (repeat (first | (with_reducible exact Below.refl _ _) | ((with_reducible refine Below.set ?_ ?_ _); rotate_left; (simp <;> omega)) | (with_reducible refine Below.box_ ?_ _) | (with_reducible refine Below.next ?_ (by assumption))))⟩
  · have E := hid (show ((n2 : Int) == 1) = smallB x by
      unfold smallB; rw [L1.out, L2.out, decide_eq_true h0, Bool.true_and, Bool.eq_iff_iff]; simp; omega)
    have hz : (n1 : Int) ≤ 1 := by omega
    go_enter Tryd.func51, Tryd.ntmps51
    go_wp2
    go_ret
    exact ⟨ret_bool E.out, by (repeat (first | (with_reducible exact Below.refl _ _) | ((with_reducible refine Below.set ?_ ?_ _); rotate_left; (simp <;> omega)) | (with_reducible refine Below.box_ ?_ _) | (with_reducible refine Below.next ?_ (by assumption))))⟩

/-- a call that hands back two ints -/
def GivesInts (w : World) (a b : Int) (e : Ending) (w' : World) : Prop := e = .returned (.tuple #[.int .i64 a, .int .i64 b]) ∧ Below w.heap.size w w'

theorem small_den {x : TRat} {d : Int} (h : x.den = [d]) : denv x = d := by unfold denv; rw [h]; simp [val]
theorem small_num0 {x : TRat} (h : x.num.mag = []) : numv x = 0 := by unfold numv ival; rw [h]; simp [val]
theorem small_num1 {x : TRat} {a : Int} (h : x.num.mag = [a]) : numv x = if x.num.neg then -a else a := by unfold numv ival; rw [h]; simp [val]

set_option maxHeartbeats 1000000 in
theorem impl_small (v : Value) (x : TRat) (b : List Nat) (w : World) (hx : Agg w v x b) (hs : smallB x = true) (hl : Lims x.num.mag) (hn : NegOk x.num) :
    Calls Tryd.prog 52 #[v] w (GivesInts w (numv x) (denv x)) := by
  obtain ⟨A1, n1, c1, s1, A2, n2, c2, s2, rfl, rfl, hs1, hs2⟩ := TRat.agg hx
  have L1 := hid hs1.1; have L2 := hid hs2.1
  unfold smallB at hs
  rw [hs1.1, hs2.1] at hs
  simp only [Bool.and_eq_true, decide_eq_true_eq] at hs
  obtain ⟨h1, rfl⟩ := hs
  obtain ⟨bd, od, d, rfl, hbd, hd1, hdI, hdc⟩ := Sl.getInt hs2 (show 0 < 1 by decide)
  have D := hid (small_den (x := x) (d := d) (by
    match x.den, hs2.1, hd1 with
    | [y], _, h => simp at h; rw [h]))
  simp only [Nat.add_zero] at hdc
  rcases Nat.eq_zero_or_pos n1 with h0 | h0
  · subst h0
    have hm : x.num.mag = [] := List.eq_nil_of_length_eq_zero L1.out
    have E := hid (small_num0 (x := x) hm)
    have hng : x.num.neg = false := by
      cases h : x.num.neg
      · rfl
      · exact absurd hm (hn h)
    clear hs1 hs2 hx hd1 hl hn hm h1
    go_enter Tryd.func52, Tryd.ntmps52
    go_wp2_with fail
    refine wp_region_walk (by kernel_rfl) (by kernel_rfl) (by kernel_rfl) ?_
    iterate 7
      apply walkM_eq
      case h =>
        intro yq zq wq hC hd
        obtain ⟨hcq, hfq⟩ := bcell hC
        simp at hd
        refine ⟨by go_simp; done, ?_⟩
        go_simp
        first | (go_ints; exact rfl) | (go_ints; rw [if_pos (by omega)]; try exact rfl) | exact rfl | (rw [if_pos (by omega)]; try exact rfl)
    intro yq zq wa hC hd hdis0
    have hdis := hid hdis0
    clear hdis0
    simp at hd
    go_simp
    clear hd hdis
    go_wp2
    go_ret2
    refine ⟨?_, by (repeat (first | (with_reducible exact Below.refl _ _) | ((with_reducible refine Below.set ?_ ?_ _); rotate_left; (simp <;> omega)) | (with_reducible refine Below.box_ ?_ _) | (with_reducible refine Below.next ?_ (by assumption))))⟩
    rw [E.out, D.out]
    rfl
  · obtain rfl : n1 = 1 := by omega
    obtain ⟨bn, on, a, rfl, hbn, hn1, hnI, hnc⟩ := Sl.getInt hs1 (show 0 < 1 by decide)
    have hm : x.num.mag = [a] := by
      match x.num.mag, hs1.1, hn1 with
      | [y], _, h => simp at h; rw [h]
    have E := hid (small_num1 (x := x) (a := a) hm)
    have hal := hl a (by rw [hm]; simp)
    obtain ⟨ha0, ha1⟩ := hal
    simp only [Nat.add_zero] at hnc
    cases hng : x.num.neg
    all_goals
      rw [hng] at E
      clear hs1 hs2 hx hd1 hl hn hm h1 hn1
      go_enter Tryd.func52, Tryd.ntmps52
      go_wp2_with fail
      refine wp_region_walk (by kernel_rfl) (by kernel_rfl) (by kernel_rfl) ?_
      iterate 7
        apply walkM_eq
        case h =>
          intro yq zq wq hC hd
          obtain ⟨hcq, hfq⟩ := bcell hC
          simp at hd
          refine ⟨by go_simp; done, ?_⟩
          go_simp
          first | (go_ints; exact rfl) | (go_ints; rw [if_pos (by omega)]; try exact rfl) | exact rfl | (rw [if_pos (by omega)]; try exact rfl)
      intro yq zq wa hC hd hdis0
      have hdis := hid hdis0
      clear hdis0
      simp at hd
      go_simp
      clear hd hdis
      go_wp2
      go_ret2
      refine ⟨?_, by (repeat (first | (with_reducible exact Below.refl _ _) | ((with_reducible refine Below.set ?_ ?_ _); rotate_left; (simp <;> omega)) | (with_reducible refine Below.box_ ?_ _) | (with_reducible refine Below.next ?_ (by assumption))))⟩
      rw [E.out, D.out]
      rfl
end Go.Proofs.YthlpjpcnpcclhaaDoor.X

/- The program's fractions: slices.IndexFunc, slices.ContainsFunc over ints; NatOk, BigIntOk. -/
namespace Go.Proofs.YthlpjpcnpcclhaaDoor.X
open Go.RowKit Go.XB Go.XN
attribute [local go_sem] fillBy opAt deps depOf Region.wanted yielded
attribute [local simp] deps depOf MP.eq MP.agg MP.sl Facts

/-- an index, or a negative number: the Bool tells whether there is one -/
def GivesIdx (w : World) (b : Bool) (e : Ending) (w' : World) : Prop := ∃ r : Int, e = .returned (.int .i64 r) ∧ decide (0 ≤ r) = b ∧ Below w.heap.size w w'

def natBad (x : Int) : Bool := !inB 0 x 999999999

set_option maxHeartbeats 400000 in
theorem impl_NatOk_1 (x : Int) (w : World) : Calls Tryd.prog 68 #[.int .i64 x] w (Gives w (.bool (natBad x))) := by
  go_enter Tryd.func68, Tryd.ntmps68
  go_wp2_with fail
  refine (impl_within x 0 999999999 w).mono ?_
  rintro _ w1 ⟨rfl, hb1⟩
  go_wp2
  go_ret
  exact ⟨rfl, hb1⟩

theorem any_at {α : Type} {xs : List α} {p : α → Bool} {k : Nat} {x : α} (h : xs[k]? = some x) (hp : p x = true) : xs.any p = true :=
  List.any_eq_true.2 ⟨x, List.mem_of_getElem? h, hp⟩
theorem any_step {α : Type} {xs : List α} {p : α → Bool} {k : Nat} {x : α} (h : xs[k]? = some x) (h0 : (xs.take k).any p = false) (hp : p x = false) : (xs.take (k + 1)).any p = false := by
  rw [take_step h, List.any_append, h0]; simp [hp]

/-- the program has this function -/
def Known (f : Nat) : Prop := ∀ (a : Array Value) (w : World), Sem.run Tryd.prog (callFunc f a) w = .ok (.enter f a) w
theorem known_NatOk_1 : Known 68 := fun a w => by kernel_rfl

set_option maxRecDepth 10000 in
set_option maxHeartbeats 1000000 in
theorem index_ints (f : Nat) (hf : Known f) (A : Option Addr) (n c : Nat) (xs : List Int) (bs : List Nat) (w : World) (p : Int → Bool) (hx : Sl w A n c xs bs)
    (hp : ∀ (x : Int) (w : World), Calls Tryd.prog f #[.int .i64 x] w (Gives w (.bool (p x)))) :
    Calls Tryd.prog 76 #[.slice A n c, .func (.func f) #[] #[]] w (GivesIdx w (xs.any p)) := by
  have HL := hid hx.1
  have HX := hid hx
  have HP := hid hp
  unfold Known at hf
  have hm : n ≤ maxLen := Nat.le_trans hx.2.1 hx.2.2.1
  unfold maxLen at hm
  clear hx hp
  go_enter Tryd.func76, Tryd.ntmps76
  go_wp2_with fail
  go_loopg [8] n (fun g s8 wr => ∃ k : Nat, k + g = n ∧ s8 = .int .i64 k ∧ Hid ((xs.take k).any p = false) ∧ Below w.heap.size w wr)
  case atStart => exact ⟨0, by omega, rfl, by show (xs.take 0).any p = false; simp, Below.refl _ _⟩
  case round =>
    obtain ⟨k, hk, rfl, ha, hb⟩ := hrel
    rcases Nat.lt_or_ge k n with hkn | hkn
    · obtain ⟨b, off, x, rfl, hbl, hx1, hI, hc⟩ := Sl.getInt (Sl.below HX.out hb) hkn
      have HX1 := hid hx1
      have hki : (k : Int) < n := by omega
      obtain ⟨g, rfl⟩ : ∃ g, gk = g + 1 := ⟨gk - 1, by omega⟩
      have hk' := hid (show k + 1 + g = n by omega)
      clear hx1 hk hkn
      have hkj : k + 1 ≤ n := by have := hk'.out; omega
      go_wp2_with fail
      refine (HP.out x wr).mono ?_
      rintro _ w1 ⟨rfl, hb1⟩
      have hb2 := Below.next hb hb1
      cases hpx : p x
      · have r1 := hid (any_step HX1.out ha.out hpx)
        clear hpx
        go_wp2_with fail
        go_roundg g
        case measure => omega
        case rel => exact ⟨k + 1, hk'.out, by go_num, r1, hb2⟩
      · have r1 := hid (any_at HX1.out hpx)
        clear hpx
        go_wp2
        go_ret
        exact ⟨k, rfl, by rw [r1.out]; simp, hb2⟩
    · have e := hid (show xs.any p = false by
        have := ha.out
        rwa [List.take_of_length_le (by rw [HL.out]; omega)] at this)
      have hki : ¬ ((k : Int) < n) := by omega
      clear hk hkn
      go_wp2
      go_ret
      exact ⟨-1, rfl, by rw [e.out]; rfl, hb⟩

set_option maxHeartbeats 400000 in
theorem contains_ints (f : Nat) (hf : Known f) (A : Option Addr) (n c : Nat) (xs : List Int) (bs : List Nat) (w : World) (p : Int → Bool) (hx : Sl w A n c xs bs)
    (hp : ∀ (x : Int) (w : World), Calls Tryd.prog f #[.int .i64 x] w (Gives w (.bool (p x)))) :
    Calls Tryd.prog 67 #[.slice A n c, .func (.func f) #[] #[]] w (Gives w (.bool (xs.any p))) := by
  have HX := hid hx
  have HP := hid hp
  have HF := hid hf
  clear hx hp hf
  go_enter Tryd.func67, Tryd.ntmps67
  go_wp2_with fail
  refine (index_ints f HF.out A n c xs bs _ p (Sl.below HX.out (by (repeat (first | (with_reducible exact Below.refl _ _) | ((with_reducible refine Below.set ?_ ?_ _); rotate_left; (simp <;> omega)) | (with_reducible refine Below.box_ ?_ _) | (with_reducible refine Below.next ?_ (by assumption)))))) HP.out).mono ?_
  rintro _ w1 ⟨r, rfl, e, hb1⟩
  have E := hid e
  clear e
  go_wp2
  go_ret
  exact ⟨ret_bool E.out, hb1⟩

theorem natOk_parts (xs : List Int) : natOkB xs = (decide (xs.length ≤ 60) && (decide (xs.getLast? ≠ some 0) && !xs.any natBad)) := by
  unfold natOkB
  rw [Bool.and_comm (xs.all _)]
  congr 1; congr 1
  rw [List.not_any_eq_all_not]
  congr 1
  funext x
  unfold natBad inB
  rw [Bool.not_not, Bool.eq_iff_iff]; simp; omega

set_option maxHeartbeats 1000000 in
theorem impl_NatOk (A : Option Addr) (n c : Nat) (xs : List Int) (bs : List Nat) (w : World) (hx : Sl w A n c xs bs) :
    Calls Tryd.prog 50 #[.slice A n c] w (Gives w (.bool (natOkB xs))) := by
  have HL := hid hx.1
  have HX := hid hx
  have hm : n ≤ maxLen := Nat.le_trans hx.2.1 hx.2.2.1
  unfold maxLen at hm
  rcases Nat.lt_or_ge 60 n with h60 | h60
  · have e := hid (show false = natOkB xs by rw [natOk_parts, HL.out]; simp; omega)
    have h1 : ¬ ((n : Int) ≤ 60) := by omega
    clear hx
    go_enter Tryd.func50, Tryd.ntmps50
    go_wp2
    go_ret
    exact ⟨ret_bool e.out, by (repeat (first | (with_reducible exact Below.refl _ _) | ((with_reducible refine Below.set ?_ ?_ _); rotate_left; (simp <;> omega)) | (with_reducible refine Below.box_ ?_ _) | (with_reducible refine Below.next ?_ (by assumption))))⟩
  · have h1 : (n : Int) ≤ 60 := by omega
    rcases Nat.eq_zero_or_pos n with h0 | h0
    · subst h0
      have e := hid (show (!xs.any natBad) = natOkB xs by rw [natOk_parts, List.eq_nil_of_length_eq_zero HL.out]; rfl)
      clear hx
      go_enter Tryd.func50, Tryd.ntmps50
      go_wp2_with fail
      refine (contains_ints 68 known_NatOk_1 A 0 c xs bs _ natBad (Sl.below HX.out (by (repeat (first | (with_reducible exact Below.refl _ _) | ((with_reducible refine Below.set ?_ ?_ _); rotate_left; (simp <;> omega)) | (with_reducible refine Below.box_ ?_ _) | (with_reducible refine Below.next ?_ (by assumption)))))) impl_NatOk_1).mono ?_
      rintro _ w1 ⟨rfl, hb1⟩
      go_wp2
      go_ret
      exact ⟨ret_bool e.out, hb1⟩
    · obtain ⟨k, rfl⟩ : ∃ k, n = k + 1 := ⟨n - 1, by omega⟩
      obtain ⟨b, off, x, rfl, hbl, hx1, hI, hc⟩ := Sl.getInt hx (show k < k + 1 by omega)
      have hlast := hid (show xs.getLast? = some x by rw [List.getLast?_eq_getElem?, HL.out]; exact hx1)
      have hz : ((k : Int) + 1 == 0) = false := by simp; omega
      by_cases hx0 : x = 0
      · have e := hid (show false = natOkB xs by rw [natOk_parts, hlast.out, hx0]; simp)
        have hb : (x != 0) = false := by simp [hx0]
        clear hx hx1 hx0
        go_enter Tryd.func50, Tryd.ntmps50
        go_wp2
        go_ret
        exact ⟨ret_bool e.out, by (repeat (first | (with_reducible exact Below.refl _ _) | ((with_reducible refine Below.set ?_ ?_ _); rotate_left; (simp <;> omega)) | (with_reducible refine Below.box_ ?_ _) | (with_reducible refine Below.next ?_ (by assumption))))⟩
      · have e := hid (show (!xs.any natBad) = natOkB xs by rw [natOk_parts, hlast.out, HL.out, decide_eq_true h60]; simp [hx0])
        have hb : (x != 0) = true := by simp [hx0]
        clear hx hx1 hx0
        go_enter Tryd.func50, Tryd.ntmps50
        go_wp2_with fail
        refine (contains_ints 68 known_NatOk_1 _ (k + 1) c xs bs _ natBad (Sl.below HX.out (by (repeat (first | (with_reducible exact Below.refl _ _) | ((with_reducible refine Below.set ?_ ?_ _); rotate_left; (simp <;> omega)) | (with_reducible refine Below.box_ ?_ _) | (with_reducible refine Below.next ?_ (by assumption)))))) impl_NatOk_1).mono ?_
        rintro _ w1 ⟨rfl, hb1⟩
        go_wp2
        go_ret
        exact ⟨ret_bool e.out, hb1⟩

set_option maxHeartbeats 1000000 in
theorem impl_BigIntOk (v : Value) (x : TBigInt) (bs : List Nat) (w : World) (hx : Agg w v x bs) :
    Calls Tryd.prog 49 #[v] w (Gives w (.bool (bigOkB x))) := by
  obtain ⟨A1, n1, c1, s1, rfl, rfl, hs1⟩ := TBigInt.agg hx
  have H1 := hid hs1
  clear hs1 hx
  have E := hid (show bigOkB x = (natOkB x.mag && (!x.neg || decide (0 < n1))) by
    unfold bigOkB
    congr 1; congr 1
    rw [← H1.out.1]
    cases x.mag <;> simp)
  cases hn : natOkB x.mag
  · go_enter Tryd.func49, Tryd.ntmps49
    go_wp2_with fail
    have C := impl_NatOk A1 n1 c1 x.mag bs (w.alloc (.cells #[.bool x.neg, .slice A1 n1 c1] 31)) (Sl.below H1.out (by (repeat (first | (with_reducible exact Below.refl _ _) | ((with_reducible refine Below.set ?_ ?_ _); rotate_left; (simp <;> omega)) | (with_reducible refine Below.box_ ?_ _) | (with_reducible refine Below.next ?_ (by assumption))))))
    rw [hn] at C
    refine C.mono ?_
    clear C
    rintro _ w1 ⟨rfl, hb1⟩
    obtain ⟨hc_w1, hf_w1⟩ := bcell hb1
    have hz0_w1 : w.heap.size < w1.heap.size := by have := hb1.size; (try simp at this); omega
    go_wp2
    go_ret
    exact ⟨ret_bool (by rw [E.out, hn]; rfl), by (repeat (first | (with_reducible exact Below.refl _ _) | ((with_reducible refine Below.set ?_ ?_ _); rotate_left; (simp <;> omega)) | (with_reducible refine Below.box_ ?_ _) | (with_reducible refine Below.next ?_ (by assumption))))⟩
  · have HN := hid hn
    clear hn
    rw [HN.out, Bool.true_and] at E
    cases hg : x.neg
    · have E2 := hid (show true = bigOkB x by rw [E.out, hg]; rfl)
      clear E
      go_enter Tryd.func49, Tryd.ntmps49
      go_wp2_with fail
      have C := impl_NatOk A1 n1 c1 x.mag bs (w.alloc (.cells #[.bool false, .slice A1 n1 c1] 31)) (Sl.below H1.out (by (repeat (first | (with_reducible exact Below.refl _ _) | ((with_reducible refine Below.set ?_ ?_ _); rotate_left; (simp <;> omega)) | (with_reducible refine Below.box_ ?_ _) | (with_reducible refine Below.next ?_ (by assumption))))))
      rw [HN.out] at C
      refine C.mono ?_
      clear C
      rintro _ w1 ⟨rfl, hb1⟩
      obtain ⟨hc_w1, hf_w1⟩ := bcell hb1
      have hz0_w1 : w.heap.size < w1.heap.size := by have := hb1.size; (try simp at this); omega
      go_wp2
      go_ret
      exact ⟨ret_bool E2.out, by (repeat (first | (with_reducible exact Below.refl _ _) | ((with_reducible refine Below.set ?_ ?_ _); rotate_left; (simp <;> omega)) | (with_reducible refine Below.box_ ?_ _) | (with_reducible refine Below.next ?_ (by assumption))))⟩
    · have E2 := hid (show decide (0 < n1) = bigOkB x by rw [E.out, hg]; rfl)
      clear E
      go_enter Tryd.func49, Tryd.ntmps49
      go_wp2_with fail
      have C := impl_NatOk A1 n1 c1 x.mag bs (w.alloc (.cells #[.bool true, .slice A1 n1 c1] 31)) (Sl.below H1.out (by (repeat (first | (with_reducible exact Below.refl _ _) | ((with_reducible refine Below.set ?_ ?_ _); rotate_left; (simp <;> omega)) | (with_reducible refine Below.box_ ?_ _) | (with_reducible refine Below.next ?_ (by assumption))))))
      rw [HN.out] at C
      refine C.mono ?_
      clear C
      rintro _ w1 ⟨rfl, hb1⟩
      obtain ⟨hc_w1, hf_w1⟩ := bcell hb1
      have hz0_w1 : w.heap.size < w1.heap.size := by have := hb1.size; (try simp at this); omega
      go_wp2
      go_ret
      exact ⟨ret_bool E2.out, by (repeat (first | (with_reducible exact Below.refl _ _) | ((with_reducible refine Below.set ?_ ?_ _); rotate_left; (simp <;> omega)) | (with_reducible refine Below.box_ ?_ _) | (with_reducible refine Below.next ?_ (by assumption))))⟩
end Go.Proofs.YthlpjpcnpcclhaaDoor.X

/- The program's fractions: RatOk. -/
namespace Go.Proofs.YthlpjpcnpcclhaaDoor.X
open Go.RowKit Go.XB Go.XN
attribute [local go_sem] fillBy opAt deps depOf Region.wanted yielded
attribute [local simp] deps depOf MP.eq MP.agg MP.sl Facts

theorem dig_one {N : Nat} : (dig N = [1]) ↔ N = 1 := by
  constructor
  · intro h
    have := val_dig N
    rw [h] at this
    simp [val] at this
    omega
  · rintro rfl; rfl
theorem ratOk_split {x : TRat} {b1 b2 : Bool} {n1 n2 : Nat} (h1 : bigOkB x.num = b1) (h2 : natOkB x.den = b2) (l1 : x.num.mag.length = n1) (l2 : x.den.length = n2) :
    ratOkB x = (b1 && (b2 && (decide (0 < n2) && (decide (n1 ≤ 24) && (decide (n2 ≤ 24) && decide (Int.gcd (val x.num.mag) (val x.den) = 1)))))) := by
  unfold ratOkB
  rw [h1, h2, l1, l2]
  congr 2; congr 1
  rw [← l2]
  cases x.den <;> simp
theorem gcd_num (x : TRat) : Int.gcd (numv x) (denv x) = Int.gcd (val x.num.mag) (val x.den) := by
  unfold numv denv ival; split <;> simp
theorem denv_small {x : TRat} (h : XN.Can x.den) (hl : x.den.length = 1) : 0 ≤ denv x ∧ denv x < 1000000000 := by
  unfold denv
  have := val_lt h.1; have := val_nonneg h.1
  rw [hl, pw_vals.1] at *
  omega
theorem numv_small {x : TRat} (h : Lims x.num.mag) (hl : x.num.mag.length ≤ 1) : -1000000000 < numv x ∧ numv x < 1000000000 := by
  have h1 := val_lt h; have h2 := val_nonneg h
  have h3 := pw_mono hl
  rw [pw_vals.1] at h3
  unfold numv ival
  split <;> omega
theorem negOk_of {x : TBigInt} (h : bigOkB x = true) : NegOk x := (bigOkB_iff.1 h).2

set_option maxHeartbeats 4000000 in
theorem impl_RatOk (v : Value) (x : TRat) (b : List Nat) (w : World) (hx : Agg w v x b) :
    Calls Tryd.prog 36 #[v] w (Gives w (.bool (ratOkB x))) := by
  have HX := hid hx
  obtain ⟨A1, n1, c1, s1, A2, n2, c2, s2, rfl, rfl, hs1, hs2⟩ := TRat.agg hx
  have H1 := hid hs1; have H2 := hid hs2
  clear hs1 hs2 hx
  cases hb1 : bigOkB x.num
  · have E := hid (show false = ratOkB x by rw [ratOk_split hb1 rfl rfl rfl]; rfl)
    have HB1 := hid hb1
    clear hb1
    go_enter Tryd.func36, Tryd.ntmps36
    go_wp2_with fail
    have C := impl_BigIntOk _ x.num s1 (w.alloc (.cells #[.bool x.num.neg, .slice A1 n1 c1, .slice A2 n2 c2] 33)) (TBigInt.mkAgg (Sl.below H1.out (by (repeat (first | (with_reducible exact Below.refl _ _) | ((with_reducible refine Below.set ?_ ?_ _); rotate_left; (simp <;> omega)) | (with_reducible refine Below.box_ ?_ _) | (with_reducible refine Below.next ?_ (by assumption)))))))
    rw [HB1.out] at C
    refine C.mono ?_
    clear C
    rintro _ w1 ⟨rfl, hb1⟩
    obtain ⟨hc_w1, hf_w1⟩ := bcell hb1
    have hz0_w1 : w.heap.size < w1.heap.size := by have := hb1.size; (try simp at this); omega
    go_wp2
    go_ret
    exact ⟨ret_bool (E.out), by (repeat (first | (with_reducible exact Below.refl _ _) | ((with_reducible refine Below.set ?_ ?_ _); rotate_left; (simp <;> omega)) | (with_reducible refine Below.box_ ?_ _) | (with_reducible refine Below.next ?_ (by assumption))))⟩
  · have HB1 := hid hb1
    cases hb2 : natOkB x.den
    · have E := hid (show false = ratOkB x by rw [ratOk_split hb1 hb2 rfl rfl]; rfl)
      have HB2 := hid hb2
      clear hb1 hb2
      go_enter Tryd.func36, Tryd.ntmps36
      go_wp2_with fail
      have C := impl_BigIntOk _ x.num s1 (w.alloc (.cells #[.bool x.num.neg, .slice A1 n1 c1, .slice A2 n2 c2] 33)) (TBigInt.mkAgg (Sl.below H1.out (by (repeat (first | (with_reducible exact Below.refl _ _) | ((with_reducible refine Below.set ?_ ?_ _); rotate_left; (simp <;> omega)) | (with_reducible refine Below.box_ ?_ _) | (with_reducible refine Below.next ?_ (by assumption)))))))
      rw [HB1.out] at C
      refine C.mono ?_
      clear C
      rintro _ w1 ⟨rfl, hb1⟩
      obtain ⟨hc_w1, hf_w1⟩ := bcell hb1
      have hz0_w1 : w.heap.size < w1.heap.size := by have := hb1.size; (try simp at this); omega
      go_wp2_with fail
      have C := impl_NatOk A2 n2 c2 x.den s2 w1 (Sl.below H2.out (by (repeat (first | (with_reducible exact Below.refl _ _) | ((with_reducible refine Below.set ?_ ?_ _); rotate_left; (simp <;> omega)) | (with_reducible refine Below.box_ ?_ _) | (with_reducible refine Below.next ?_ (by assumption))))))
      rw [HB2.out] at C
      refine C.mono ?_
      clear C
      rintro _ w2 ⟨rfl, hb2⟩
      obtain ⟨hc_w2, hf_w2⟩ := bcell hb2
      have hz0_w2 : w.heap.size < w2.heap.size := by have := hb2.size; (try simp at this); omega
      go_wp2
      go_ret
      exact ⟨ret_bool (E.out), by (repeat (first | (with_reducible exact Below.refl _ _) | ((with_reducible refine Below.set ?_ ?_ _); rotate_left; (simp <;> omega)) | (with_reducible refine Below.box_ ?_ _) | (with_reducible refine Below.next ?_ (by assumption))))⟩
    · have HB2 := hid hb2
      have S := hid (ratOk_split hb1 hb2 H1.out.1 H2.out.1)
      rw [Bool.true_and, Bool.true_and] at S
      clear hb1 hb2
      rcases Nat.eq_zero_or_pos n2 with h0 | h0
      · have E := hid (show false = ratOkB x by rw [S.out, h0]; rfl)
        have z0 : ((n2 : Int) == 0) = true := by simp [h0]
        clear h0
        go_enter Tryd.func36, Tryd.ntmps36
        go_wp2_with fail
        have C := impl_BigIntOk _ x.num s1 (w.alloc (.cells #[.bool x.num.neg, .slice A1 n1 c1, .slice A2 n2 c2] 33)) (TBigInt.mkAgg (Sl.below H1.out (by (repeat (first | (with_reducible exact Below.refl _ _) | ((with_reducible refine Below.set ?_ ?_ _); rotate_left; (simp <;> omega)) | (with_reducible refine Below.box_ ?_ _) | (with_reducible refine Below.next ?_ (by assumption)))))))
        rw [HB1.out] at C
        refine C.mono ?_
        clear C
        rintro _ w1 ⟨rfl, hb1⟩
        obtain ⟨hc_w1, hf_w1⟩ := bcell hb1
        have hz0_w1 : w.heap.size < w1.heap.size := by have := hb1.size; (try simp at this); omega
        go_wp2_with fail
        have C := impl_NatOk A2 n2 c2 x.den s2 w1 (Sl.below H2.out (by (repeat (first | (with_reducible exact Below.refl _ _) | ((with_reducible refine Below.set ?_ ?_ _); rotate_left; (simp <;> omega)) | (with_reducible refine Below.box_ ?_ _) | (with_reducible refine Below.next ?_ (by assumption))))))
        rw [HB2.out] at C
        refine C.mono ?_
        clear C
        rintro _ w2 ⟨rfl, hb2⟩
        obtain ⟨hc_w2, hf_w2⟩ := bcell hb2
        have hz0_w2 : w.heap.size < w2.heap.size := by have := hb2.size; (try simp at this); omega
        go_wp2
        go_ret
        exact ⟨ret_bool (E.out), by (repeat (first | (with_reducible exact Below.refl _ _) | ((with_reducible refine Below.set ?_ ?_ _); rotate_left; (simp <;> omega)) | (with_reducible refine Below.box_ ?_ _) | (with_reducible refine Below.next ?_ (by assumption))))⟩
      have z0 : ((n2 : Int) == 0) = false := by simp; omega
      rcases Nat.lt_or_ge 24 n1 with h1 | h1
      · have E := hid (show false = ratOkB x by rw [S.out]; simp; omega)
        have z1 : (24 : Int) < n1 := by omega
        clear h0 h1
        go_enter Tryd.func36, Tryd.ntmps36
        go_wp2_with fail
        have C := impl_BigIntOk _ x.num s1 (w.alloc (.cells #[.bool x.num.neg, .slice A1 n1 c1, .slice A2 n2 c2] 33)) (TBigInt.mkAgg (Sl.below H1.out (by (repeat (first | (with_reducible exact Below.refl _ _) | ((with_reducible refine Below.set ?_ ?_ _); rotate_left; (simp <;> omega)) | (with_reducible refine Below.box_ ?_ _) | (with_reducible refine Below.next ?_ (by assumption)))))))
        rw [HB1.out] at C
        refine C.mono ?_
        clear C
        rintro _ w1 ⟨rfl, hb1⟩
        obtain ⟨hc_w1, hf_w1⟩ := bcell hb1
        have hz0_w1 : w.heap.size < w1.heap.size := by have := hb1.size; (try simp at this); omega
        go_wp2_with fail
        have C := impl_NatOk A2 n2 c2 x.den s2 w1 (Sl.below H2.out (by (repeat (first | (with_reducible exact Below.refl _ _) | ((with_reducible refine Below.set ?_ ?_ _); rotate_left; (simp <;> omega)) | (with_reducible refine Below.box_ ?_ _) | (with_reducible refine Below.next ?_ (by assumption))))))
        rw [HB2.out] at C
        refine C.mono ?_
        clear C
        rintro _ w2 ⟨rfl, hb2⟩
        obtain ⟨hc_w2, hf_w2⟩ := bcell hb2
        have hz0_w2 : w.heap.size < w2.heap.size := by have := hb2.size; (try simp at this); omega
        go_wp2
        go_ret
        exact ⟨ret_bool (E.out), by (repeat (first | (with_reducible exact Below.refl _ _) | ((with_reducible refine Below.set ?_ ?_ _); rotate_left; (simp <;> omega)) | (with_reducible refine Below.box_ ?_ _) | (with_reducible refine Below.next ?_ (by assumption))))⟩
      have z1 : ¬ ((24 : Int) < n1) := by omega
      rcases Nat.lt_or_ge 24 n2 with h2 | h2
      · have E := hid (show false = ratOkB x by rw [S.out]; simp; omega)
        have z2 : (24 : Int) < n2 := by omega
        clear h0 h1 h2
        go_enter Tryd.func36, Tryd.ntmps36
        go_wp2_with fail
        have C := impl_BigIntOk _ x.num s1 (w.alloc (.cells #[.bool x.num.neg, .slice A1 n1 c1, .slice A2 n2 c2] 33)) (TBigInt.mkAgg (Sl.below H1.out (by (repeat (first | (with_reducible exact Below.refl _ _) | ((with_reducible refine Below.set ?_ ?_ _); rotate_left; (simp <;> omega)) | (with_reducible refine Below.box_ ?_ _) | (with_reducible refine Below.next ?_ (by assumption)))))))
        rw [HB1.out] at C
        refine C.mono ?_
        clear C
        rintro _ w1 ⟨rfl, hb1⟩
        obtain ⟨hc_w1, hf_w1⟩ := bcell hb1
        have hz0_w1 : w.heap.size < w1.heap.size := by have := hb1.size; (try simp at this); omega
        go_wp2_with fail
        have C := impl_NatOk A2 n2 c2 x.den s2 w1 (Sl.below H2.out (by (repeat (first | (with_reducible exact Below.refl _ _) | ((with_reducible refine Below.set ?_ ?_ _); rotate_left; (simp <;> omega)) | (with_reducible refine Below.box_ ?_ _) | (with_reducible refine Below.next ?_ (by assumption))))))
        rw [HB2.out] at C
        refine C.mono ?_
        clear C
        rintro _ w2 ⟨rfl, hb2⟩
        obtain ⟨hc_w2, hf_w2⟩ := bcell hb2
        have hz0_w2 : w.heap.size < w2.heap.size := by have := hb2.size; (try simp at this); omega
        go_wp2
        go_ret
        exact ⟨ret_bool (E.out), by (repeat (first | (with_reducible exact Below.refl _ _) | ((with_reducible refine Below.set ?_ ?_ _); rotate_left; (simp <;> omega)) | (with_reducible refine Below.box_ ?_ _) | (with_reducible refine Below.next ?_ (by assumption))))⟩
      have z2 : ¬ ((24 : Int) < n2) := by omega
      have S2 := hid (show ratOkB x = decide (Int.gcd (val x.num.mag) (val x.den) = 1) by rw [S.out, decide_eq_true h0, decide_eq_true h1, decide_eq_true h2]; rfl)
      have CN := hid (bigOkB_iff.1 HB1.out).1.2
      have CD := hid (natOkB_iff.1 HB2.out).2
      have NG := hid (negOk_of HB1.out)
      have hn1 : n1 ≤ 65536 := by omega
      have hn2 : n2 ≤ 65536 := by omega
      clear S h1 h2
      cases hs : smallB x
      · have HS := hid hs
        clear hs h0
        have E := hid (show decide (dig (Int.gcd (val x.num.mag) (val x.den)) = [1]) = ratOkB x by rw [S2.out]; simp only [dig_one])
        go_enter Tryd.func36, Tryd.ntmps36
        go_wp2_with fail
        have C := impl_BigIntOk _ x.num s1 (w.alloc (.cells #[.bool x.num.neg, .slice A1 n1 c1, .slice A2 n2 c2] 33)) (TBigInt.mkAgg (Sl.below H1.out (by (repeat (first | (with_reducible exact Below.refl _ _) | ((with_reducible refine Below.set ?_ ?_ _); rotate_left; (simp <;> omega)) | (with_reducible refine Below.box_ ?_ _) | (with_reducible refine Below.next ?_ (by assumption)))))))
        rw [HB1.out] at C
        refine C.mono ?_
        clear C
        rintro _ w1 ⟨rfl, hb1⟩
        obtain ⟨hc_w1, hf_w1⟩ := bcell hb1
        have hz0_w1 : w.heap.size < w1.heap.size := by have := hb1.size; (try simp at this); omega
        go_wp2_with fail
        have C := impl_NatOk A2 n2 c2 x.den s2 w1 (Sl.below H2.out (by (repeat (first | (with_reducible exact Below.refl _ _) | ((with_reducible refine Below.set ?_ ?_ _); rotate_left; (simp <;> omega)) | (with_reducible refine Below.box_ ?_ _) | (with_reducible refine Below.next ?_ (by assumption))))))
        rw [HB2.out] at C
        refine C.mono ?_
        clear C
        rintro _ w2 ⟨rfl, hb2⟩
        obtain ⟨hc_w2, hf_w2⟩ := bcell hb2
        have hz0_w2 : w.heap.size < w2.heap.size := by have := hb2.size; (try simp at this); omega
        go_wp2_with fail
        have C := impl_isSmall _ x _ w2 (Agg.below HX.out (by (repeat (first | (with_reducible exact Below.refl _ _) | ((with_reducible refine Below.set ?_ ?_ _); rotate_left; (simp <;> omega)) | (with_reducible refine Below.box_ ?_ _) | (with_reducible refine Below.next ?_ (by assumption))))))
        rw [HS.out] at C
        refine C.mono ?_
        clear C
        rintro _ w3 ⟨rfl, hb3⟩
        obtain ⟨hc_w3, hf_w3⟩ := bcell hb3
        have hz0_w3 : w.heap.size < w3.heap.size := by have := hb3.size; (try simp at this); omega
        go_wp2_with fail
        refine (impl_natGcd A1 A2 n1 n2 c1 c2 x.num.mag x.den _ _ _ (Sl.below H1.out (by (repeat (first | (with_reducible exact Below.refl _ _) | ((with_reducible refine Below.set ?_ ?_ _); rotate_left; (simp <;> omega)) | (with_reducible refine Below.box_ ?_ _) | (with_reducible refine Below.next ?_ (by assumption)))))) (Sl.below H2.out (by (repeat (first | (with_reducible exact Below.refl _ _) | ((with_reducible refine Below.set ?_ ?_ _); rotate_left; (simp <;> omega)) | (with_reducible refine Below.box_ ?_ _) | (with_reducible refine Below.next ?_ (by assumption)))))) CN.out CD.out hn1 hn2).mono ?_
        rintro _ w4 ⟨v4, rfl, hown, hb4⟩
        obtain ⟨A4, c4, s4, rfl, hs4, _⟩ := row_own hown (dig_can _).1.i64
        have HS4 := hid hs4
        clear hown hs4
        go_wp2_with fail
        refine (impl_isOne A4 _ c4 _ s4 w4 HS4.out).mono ?_
        rintro _ w5 ⟨rfl, hb5⟩
        go_wp2
        go_ret
        exact ⟨ret_bool (E.out), by (repeat (first | (with_reducible exact Below.refl _ _) | ((with_reducible refine Below.set ?_ ?_ _); rotate_left; (simp <;> omega)) | (with_reducible refine Below.box_ ?_ _) | (with_reducible refine Below.next ?_ (by assumption))))⟩
      · have HS := hid hs
        have sm := hs
        unfold smallB at sm
        simp only [Bool.and_eq_true, decide_eq_true_eq] at sm
        have d1 := denv_small CD.out sm.2
        have m1 := numv_small CN.out.1 sm.1
        have d0 : 0 < denv x := CD.out.pos (by intro e; have := H2.out.1; rw [e] at this; simp at this; omega)
        have E := hid (show ((Int.gcd (numv x) (denv x) : Int) == 1) = ratOkB x by rw [S2.out, gcd_num]; rw [Bool.eq_iff_iff]; simp; omega)
        clear hs h0 sm
        have HN := hid (show numv x = numv x from rfl)
        generalize hnv : numv x = nv at *
        generalize hdv : denv x = dv at *
        have HNV := hid hnv; have HDV := hid hdv
        clear hnv hdv
        rcases Int.lt_or_le nv 0 with hneg | hneg
        · have hm : nv ≤ -nv := by omega
          have E' := E
          clear E
          go_enter Tryd.func36, Tryd.ntmps36
          go_wp2_with fail
          have C := impl_BigIntOk _ x.num s1 (w.alloc (.cells #[.bool x.num.neg, .slice A1 n1 c1, .slice A2 n2 c2] 33)) (TBigInt.mkAgg (Sl.below H1.out (by (repeat (first | (with_reducible exact Below.refl _ _) | ((with_reducible refine Below.set ?_ ?_ _); rotate_left; (simp <;> omega)) | (with_reducible refine Below.box_ ?_ _) | (with_reducible refine Below.next ?_ (by assumption)))))))
          rw [HB1.out] at C
          refine C.mono ?_
          clear C
          rintro _ w1 ⟨rfl, hb1⟩
          obtain ⟨hc_w1, hf_w1⟩ := bcell hb1
          have hz0_w1 : w.heap.size < w1.heap.size := by have := hb1.size; (try simp at this); omega
          go_wp2_with fail
          have C := impl_NatOk A2 n2 c2 x.den s2 w1 (Sl.below H2.out (by (repeat (first | (with_reducible exact Below.refl _ _) | ((with_reducible refine Below.set ?_ ?_ _); rotate_left; (simp <;> omega)) | (with_reducible refine Below.box_ ?_ _) | (with_reducible refine Below.next ?_ (by assumption))))))
          rw [HB2.out] at C
          refine C.mono ?_
          clear C
          rintro _ w2 ⟨rfl, hb2⟩
          obtain ⟨hc_w2, hf_w2⟩ := bcell hb2
          have hz0_w2 : w.heap.size < w2.heap.size := by have := hb2.size; (try simp at this); omega
          go_wp2_with fail
          have C := impl_isSmall _ x _ w2 (Agg.below HX.out (by (repeat (first | (with_reducible exact Below.refl _ _) | ((with_reducible refine Below.set ?_ ?_ _); rotate_left; (simp <;> omega)) | (with_reducible refine Below.box_ ?_ _) | (with_reducible refine Below.next ?_ (by assumption))))))
          rw [HS.out] at C
          refine C.mono ?_
          clear C
          rintro _ w3 ⟨rfl, hb3⟩
          obtain ⟨hc_w3, hf_w3⟩ := bcell hb3
          have hz0_w3 : w.heap.size < w3.heap.size := by have := hb3.size; (try simp at this); omega
          go_wp2_with fail
          have C := impl_small _ x _ w3 (Agg.below HX.out (by (repeat (first | (with_reducible exact Below.refl _ _) | ((with_reducible refine Below.set ?_ ?_ _); rotate_left; (simp <;> omega)) | (with_reducible refine Below.box_ ?_ _) | (with_reducible refine Below.next ?_ (by assumption)))))) HS.out CN.out.1 NG.out
          rw [HNV.out, HDV.out] at C
          refine C.mono ?_
          clear C
          rintro _ w4 ⟨rfl, hb4⟩
          obtain ⟨hc_w4, hf_w4⟩ := bcell hb4
          have hz0_w4 : w.heap.size < w4.heap.size := by have := hb4.size; (try simp at this); omega
          go_wp2_with fail
          refine (impl_gcd (-nv) dv w4 (by omega) (by omega) (by omega) (by omega)).mono ?_
          rintro _ w5 ⟨rfl, hb5⟩
          go_wp2
          go_ret
          exact ⟨ret_bool (E'.out), by (repeat (first | (with_reducible exact Below.refl _ _) | ((with_reducible refine Below.set ?_ ?_ _); rotate_left; (simp <;> omega)) | (with_reducible refine Below.box_ ?_ _) | (with_reducible refine Below.next ?_ (by assumption))))⟩
        · have hm : -nv ≤ nv := by omega
          have E' := E
          clear E
          go_enter Tryd.func36, Tryd.ntmps36
          go_wp2_with fail
          have C := impl_BigIntOk _ x.num s1 (w.alloc (.cells #[.bool x.num.neg, .slice A1 n1 c1, .slice A2 n2 c2] 33)) (TBigInt.mkAgg (Sl.below H1.out (by (repeat (first | (with_reducible exact Below.refl _ _) | ((with_reducible refine Below.set ?_ ?_ _); rotate_left; (simp <;> omega)) | (with_reducible refine Below.box_ ?_ _) | (with_reducible refine Below.next ?_ (by assumption)))))))
          rw [HB1.out] at C
          refine C.mono ?_
          clear C
          rintro _ w1 ⟨rfl, hb1⟩
          obtain ⟨hc_w1, hf_w1⟩ := bcell hb1
          have hz0_w1 : w.heap.size < w1.heap.size := by have := hb1.size; (try simp at this); omega
          go_wp2_with fail
          have C := impl_NatOk A2 n2 c2 x.den s2 w1 (Sl.below H2.out (by (repeat (first | (with_reducible exact Below.refl _ _) | ((with_reducible refine Below.set ?_ ?_ _); rotate_left; (simp <;> omega)) | (with_reducible refine Below.box_ ?_ _) | (with_reducible refine Below.next ?_ (by assumption))))))
          rw [HB2.out] at C
          refine C.mono ?_
          clear C
          rintro _ w2 ⟨rfl, hb2⟩
          obtain ⟨hc_w2, hf_w2⟩ := bcell hb2
          have hz0_w2 : w.heap.size < w2.heap.size := by have := hb2.size; (try simp at this); omega
          go_wp2_with fail
          have C := impl_isSmall _ x _ w2 (Agg.below HX.out (by (repeat (first | (with_reducible exact Below.refl _ _) | ((with_reducible refine Below.set ?_ ?_ _); rotate_left; (simp <;> omega)) | (with_reducible refine Below.box_ ?_ _) | (with_reducible refine Below.next ?_ (by assumption))))))
          rw [HS.out] at C
          refine C.mono ?_
          clear C
          rintro _ w3 ⟨rfl, hb3⟩
          obtain ⟨hc_w3, hf_w3⟩ := bcell hb3
          have hz0_w3 : w.heap.size < w3.heap.size := by have := hb3.size; (try simp at this); omega
          go_wp2_with fail
          have C := impl_small _ x _ w3 (Agg.below HX.out (by (repeat (first | (with_reducible exact Below.refl _ _) | ((with_reducible refine Below.set ?_ ?_ _); rotate_left; (simp <;> omega)) | (with_reducible refine Below.box_ ?_ _) | (with_reducible refine Below.next ?_ (by assumption)))))) HS.out CN.out.1 NG.out
          rw [HNV.out, HDV.out] at C
          refine C.mono ?_
          clear C
          rintro _ w4 ⟨rfl, hb4⟩
          obtain ⟨hc_w4, hf_w4⟩ := bcell hb4
          have hz0_w4 : w.heap.size < w4.heap.size := by have := hb4.size; (try simp at this); omega
          go_wp2_with fail
          refine (impl_gcd nv dv w4 (by omega) (by omega) (by omega) (by omega)).mono ?_
          rintro _ w5 ⟨rfl, hb5⟩
          go_wp2
          go_ret
          exact ⟨ret_bool (E'.out), by (repeat (first | (with_reducible exact Below.refl _ _) | ((with_reducible refine Below.set ?_ ?_ _); rotate_left; (simp <;> omega)) | (with_reducible refine Below.box_ ?_ _) | (with_reducible refine Below.next ?_ (by assumption))))⟩
end Go.Proofs.YthlpjpcnpcclhaaDoor.X

/- The program's fractions: IndexFunc, ContainsFunc over fractions, areRats; reduced. -/
namespace Go.Proofs.YthlpjpcnpcclhaaDoor.X
open Go.RowKit Go.XB Go.XN
attribute [local go_sem] fillBy opAt deps depOf Region.wanted yielded
attribute [local simp] deps depOf MP.eq MP.agg MP.sl Facts

set_option maxRecDepth 10000 in
set_option maxHeartbeats 1000000 in
theorem index_rats (f : Nat) (hf : Known f) (A : Option Addr) (n c : Nat) (xs : List TRat) (bs : List Nat) (w : World) (p : TRat → Bool) (hx : Sl w A n c xs bs)
    (hp : ∀ (v : Value) (x : TRat) (b : List Nat) (w : World), x ∈ xs → Agg w v x b → Calls Tryd.prog f #[v] w (Gives w (.bool (p x)))) :
    Calls Tryd.prog 48 #[.slice A n c, .func (.func f) #[] #[]] w (GivesIdx w (xs.any p)) := by
  have HL := hid hx.1
  have HX := hid hx
  have HP := hid hp
  unfold Known at hf
  have hm : n ≤ maxLen := Nat.le_trans hx.2.1 hx.2.2.1
  unfold maxLen at hm
  clear hx hp
  go_enter Tryd.func48, Tryd.ntmps48
  go_wp2_with fail
  go_loopg [8] n (fun g s8 wr => ∃ k : Nat, k + g = n ∧ s8 = .int .i64 k ∧ Hid ((xs.take k).any p = false) ∧ Below w.heap.size w wr)
  case atStart => exact ⟨0, by omega, rfl, by show (xs.take 0).any p = false; simp, Below.refl _ _⟩
  case round =>
    obtain ⟨k, hk, rfl, ha, hb⟩ := hrel
    rcases Nat.lt_or_ge k n with hkn | hkn
    · obtain ⟨be, offe, x, A1, m1, d1, s1, A2, m2, d2, s2, rfl, hble, hx1, e0, e1, e2, hag⟩ := TRat.elemA (Sl.below HX.out hb) hkn
      have HX1 := hid hx1
      have HAG := hid hag
      have hki : (k : Int) < n := by omega
      obtain ⟨g, rfl⟩ : ∃ g, gk = g + 1 := ⟨gk - 1, by omega⟩
      have hk' := hid (show k + 1 + g = n by omega)
      have hkj : k + 1 ≤ n := hkn
      clear hx1 hk hkn hag
      go_wp2_with fail
      refine (HP.out _ x _ wr (List.mem_of_getElem? HX1.out) HAG.out).mono ?_
      rintro _ w1 ⟨rfl, hb1⟩
      have hb2 := Below.next hb hb1
      cases hpx : p x
      · have r1 := hid (any_step HX1.out ha.out hpx)
        clear hpx
        go_wp2_with fail
        go_roundg g
        case measure => omega
        case rel => exact ⟨k + 1, hk'.out, by go_num, r1, hb2⟩
      · have r1 := hid (any_at HX1.out hpx)
        clear hpx
        go_wp2
        go_ret
        exact ⟨k, rfl, by rw [r1.out]; simp, hb2⟩
    · have e := hid (show xs.any p = false by
        have := ha.out
        rwa [List.take_of_length_le (by rw [HL.out]; omega)] at this)
      have hki : ¬ ((k : Int) < n) := by omega
      clear hk hkn
      go_wp2
      go_ret
      exact ⟨-1, rfl, by rw [e.out]; rfl, hb⟩

set_option maxHeartbeats 400000 in
theorem contains_rats (f : Nat) (hf : Known f) (A : Option Addr) (n c : Nat) (xs : List TRat) (bs : List Nat) (w : World) (p : TRat → Bool) (hx : Sl w A n c xs bs)
    (hp : ∀ (v : Value) (x : TRat) (b : List Nat) (w : World), x ∈ xs → Agg w v x b → Calls Tryd.prog f #[v] w (Gives w (.bool (p x)))) :
    Calls Tryd.prog 34 #[.slice A n c, .func (.func f) #[] #[]] w (Gives w (.bool (xs.any p))) := by
  have HX := hid hx
  have HP := hid hp
  have HF := hid hf
  clear hx hp hf
  go_enter Tryd.func34, Tryd.ntmps34
  go_wp2_with fail
  refine (index_rats f HF.out A n c xs bs _ p (Sl.below HX.out (by (repeat (first | (with_reducible exact Below.refl _ _) | ((with_reducible refine Below.set ?_ ?_ _); rotate_left; (simp <;> omega)) | (with_reducible refine Below.box_ ?_ _) | (with_reducible refine Below.next ?_ (by assumption)))))) HP.out).mono ?_
  rintro _ w1 ⟨r, rfl, e, hb1⟩
  have E := hid e
  clear e
  go_wp2
  go_ret
  exact ⟨ret_bool E.out, hb1⟩

theorem known_areRats_1 : Known 35 := fun a w => by kernel_rfl
def ratBad (x : TRat) : Bool := !ratOkB x
set_option maxHeartbeats 400000 in
theorem impl_areRats_1 (v : Value) (x : TRat) (b : List Nat) (w : World) (hx : Agg w v x b) : Calls Tryd.prog 35 #[v] w (Gives w (.bool (ratBad x))) := by
  have HX := hid hx
  obtain ⟨A1, n1, c1, s1, A2, n2, c2, s2, rfl, rfl, hs1, hs2⟩ := TRat.agg hx
  clear hs1 hs2 hx
  go_enter Tryd.func35, Tryd.ntmps35
  go_wp2_with fail
  refine (impl_RatOk _ x _ _ (Agg.below HX.out (by (repeat (first | (with_reducible exact Below.refl _ _) | ((with_reducible refine Below.set ?_ ?_ _); rotate_left; (simp <;> omega)) | (with_reducible refine Below.box_ ?_ _) | (with_reducible refine Below.next ?_ (by assumption))))))).mono ?_
  rintro _ w1 ⟨rfl, hb1⟩
  go_wp2
  go_ret
  exact ⟨rfl, by (repeat (first | (with_reducible exact Below.refl _ _) | ((with_reducible refine Below.set ?_ ?_ _); rotate_left; (simp <;> omega)) | (with_reducible refine Below.box_ ?_ _) | (with_reducible refine Below.next ?_ (by assumption))))⟩

set_option maxHeartbeats 400000 in
theorem impl_areRats (A : Option Addr) (n c : Nat) (xs : List TRat) (bs : List Nat) (w : World) (hx : Sl w A n c xs bs) :
    Calls Tryd.prog 19 #[.slice A n c] w (Gives w (.bool (xs.all ratOkB))) := by
  have HX := hid hx
  have E := hid (show (!xs.any ratBad) = xs.all ratOkB by rw [List.not_any_eq_all_not]; congr 1; funext x; unfold ratBad; rw [Bool.not_not])
  clear hx
  go_enter Tryd.func19, Tryd.ntmps19
  go_wp2_with fail
  refine (contains_rats 35 known_areRats_1 A n c xs bs _ ratBad (Sl.below HX.out (by (repeat (first | (with_reducible exact Below.refl _ _) | ((with_reducible refine Below.set ?_ ?_ _); rotate_left; (simp <;> omega)) | (with_reducible refine Below.box_ ?_ _) | (with_reducible refine Below.next ?_ (by assumption)))))) (fun v x b w _ h => impl_areRats_1 v x b w h)).mono ?_
  rintro _ w1 ⟨rfl, hb1⟩
  go_wp2
  go_ret
  exact ⟨ret_bool E.out, by (repeat (first | (with_reducible exact Below.refl _ _) | ((with_reducible refine Below.set ?_ ?_ _); rotate_left; (simp <;> omega)) | (with_reducible refine Below.box_ ?_ _) | (with_reducible refine Below.next ?_ (by assumption))))⟩
end Go.Proofs.YthlpjpcnpcclhaaDoor.X

/- The program's fractions: reduced. -/
namespace Go.Proofs.YthlpjpcnpcclhaaDoor.X
open Go.RowKit Go.XB Go.XN
attribute [local go_sem] fillBy opAt deps depOf Region.wanted yielded
attribute [local simp] deps depOf MP.eq MP.agg MP.sl Facts

theorem gcd_pos_right {a D : Int} (hD : 0 < D) : 0 < Int.gcd a D := Int.gcd_pos_of_ne_zero_right a (by omega)
theorem red_val {x : TBigInt} {D : Int} (hc : XN.Can x.mag) (hn : NegOk x) (hD : 0 < D) :
    encI (ival x / (Int.gcd (val x.mag) D : Nat)) = ⟨x.neg, dig (val x.mag / (Int.gcd (val x.mag) D : Nat)).toNat⟩ := by
  have hg := gcd_pos_right (a := val x.mag) hD
  obtain ⟨q, hq⟩ := Int.gcd_dvd_left (val x.mag) D
  generalize Int.gcd (val x.mag) D = g at *
  have h0 := val_nonneg hc.1
  have hg' : (0 : Int) < g := by omega
  have hq0 : 0 ≤ q := by
    rcases Int.lt_or_le q 0 with h | h
    · have := Int.mul_neg_of_pos_of_neg hg' h; omega
    · exact h
  unfold ival
  cases hx : x.neg
  · rw [if_neg (by simp), hq, Int.mul_ediv_cancel_left _ (by omega)]
    unfold encI
    rw [show q.natAbs = q.toNat by omega]
    congr 1
    simp; omega
  · have hp := hc.pos (hn hx)
    have hq1 : 0 < q := by
      rcases Int.lt_or_le 0 q with h | h
      · exact h
      · have : q = 0 := by omega
        rw [this] at hq; omega
    rw [if_pos rfl, hq, show -((g : Int) * q) = g * -q by rw [Int.mul_neg], Int.mul_ediv_cancel_left _ (by omega), Int.mul_ediv_cancel_left _ (by omega)]
    unfold encI
    rw [show (-q).natAbs = q.toNat by omega]
    congr 1
    simp; omega
theorem red_gcd (x : TBigInt) (D : Int) : Int.gcd (ival x) D = Int.gcd (val x.mag) D := by unfold ival; split <;> simp
theorem red_mk {x : TBigInt} {D : Int} (hc : XN.Can x.mag) (hn : NegOk x) (hD : 0 < D) :
    mkR (ival x) D = if (dig (val x.mag / (Int.gcd (val x.mag) D : Nat)).toNat).length ≤ 24 ∧ (dig (D / (Int.gcd (val x.mag) D : Nat)).toNat).length ≤ 24 then
      ⟨⟨x.neg, dig (val x.mag / (Int.gcd (val x.mag) D : Nat)).toNat⟩, dig (D / (Int.gcd (val x.mag) D : Nat)).toNat⟩ else zeroR := by
  have e := red_val hc hn hD
  unfold mkR
  rw [red_gcd]
  have e1 : dig (ival x / (Int.gcd (val x.mag) D : Nat)).natAbs = dig (val x.mag / (Int.gcd (val x.mag) D : Nat)).toNat := by
    have := congrArg TBigInt.mag e; exact this
  have e2 : (D / (Int.gcd (val x.mag) D : Nat)).natAbs = (D / (Int.gcd (val x.mag) D : Nat)).toNat := by
    have := Int.ediv_nonneg (a := D) (b := (Int.gcd (val x.mag) D : Nat)) (by omega) (by omega); omega
  rw [e1, e2, e]
theorem Own.left {w0 w : World} {a b : List Nat} (h : Own w0 w (a ++ b)) : Own w0 w a := ⟨(List.nodup_append.1 h.1).1, fun g hg => h.2 g (List.mem_append_left _ hg)⟩
theorem natGcd_sl (A B : Option Addr) (n m c d : Nat) (xs ys : List Int) (bs ds : List Nat) (w : World) (hx : Sl w A n c xs bs) (hy : Sl w B m d ys ds) (hcx : XN.Can xs) (hcy : XN.Can ys) (hn : n ≤ 65536) (hm : m ≤ 65536) :
    Calls Tryd.prog 54 #[.slice A n c, .slice B m d] w (GivesSl w (dig (Int.gcd (val xs) (val ys)))) :=
  (impl_natGcd A B n m c d xs ys bs ds w hx hy hcx hcy hn hm).mono fun _ _ ⟨_, he, ho, hb⟩ => by subst he; exact gives_row ho rfl (dig_can _).1.i64 hb
theorem zero_agg (w : World) : Agg w (.agg #[.bool false, .slice none 0 0, .slice none 0 0]) zeroR [] := TRat.mkAgg (x := zeroR) (Sl.nil w) (Sl.nil w)
theorem gives_zero {w W : World} (hb : Below w.heap.size w W) : GivesAgg w zeroR (.returned (.agg #[.bool false, .slice none 0 0, .slice none 0 0])) W := ⟨_, [], rfl, zero_agg W, Own.nil _ _, hb⟩

theorem rat_fin {w W : World} {x : TRat} {A1 A2 : Option Addr} {n1 c1 n2 c2 : Nat} {b1 b2 : List Nat} (h1 : Sl W A1 n1 c1 x.num.mag b1 ∧ Own w W b1) (h2 : Sl W A2 n2 c2 x.den b2 ∧ Own w W b2) (hd : ∀ b ∈ b1, b ∉ b2) (hb : Below w.heap.size w W) :
    GivesAgg w x (.returned (.agg #[.bool x.num.neg, .slice A1 n1 c1, .slice A2 n2 c2])) W :=
  ⟨_, b1 ++ b2, rfl, TRat.mkAgg h1.1 h2.1, Own.append h1.2 h2.2 hd, hb⟩

section
variable {x : TBigInt} {ys : List Int} {v : Value} {B : Option Addr} {m d : Nat} {b1 b2 : List Nat} {w : World}

end
end Go.Proofs.YthlpjpcnpcclhaaDoor.X
