/- The program's fractions, second part. No condition. -/
import Derived.Test.YthlpjpcnpcclhaaDoorP6
import Derived.Test.YthlpjpcnpcclhaaDoorP2
/- The program's fractions: copyRat, ofInts, RatMake, RatOf, RatFromInt. -/
namespace Go.Proofs.YthlpjpcnpcclhaaDoor.X
open Go.RowKit Go.XB Go.XN
attribute [local go_sem] fillBy opAt deps depOf Region.wanted yielded
attribute [local simp] deps depOf MP.eq MP.agg MP.sl Facts

end Go.Proofs.YthlpjpcnpcclhaaDoor.X

/- The program's fractions: ofInts, RatMake, RatOf, RatFromInt. -/
namespace Go.Proofs.YthlpjpcnpcclhaaDoor.X
open Go.RowKit Go.XB Go.XN
attribute [local go_sem] fillBy opAt deps depOf Region.wanted yielded
attribute [local simp] deps depOf MP.eq MP.agg MP.sl Facts

theorem u64_in {x : Int} (h0 : 0 ≤ x) (h1 : x ≤ 18446744073709551615) : IntKind.u64.wrap x = x := by simp [IntKind.wrap, IntKind.signed, IntKind.bits]; omega
theorem tdiv_dvd {a : Int} {g : Nat} (h : (g : Int) ∣ a) : a.tdiv g = a / g := by
  obtain ⟨q, rfl⟩ := h
  rcases Nat.eq_zero_or_pos g with h0 | h0
  · subst h0; simp
  · rw [Int.mul_tdiv_cancel_left _ (by omega), Int.mul_ediv_cancel_left _ (by omega)]
theorem div_bound {a M : Int} {g : Nat} (hg : 0 < g) (h : (g : Int) ∣ a) (h0 : -M ≤ a) (h1 : a ≤ M) : -M ≤ a / g ∧ a / g ≤ M := by
  obtain ⟨q, rfl⟩ := h
  rw [Int.mul_ediv_cancel_left _ (by omega)]
  have hg' : (1 : Int) ≤ g := by omega
  rcases Int.lt_or_le q 0 with hq | hq
  · have : (g : Int) * q ≤ 1 * q := Int.mul_le_mul_of_nonpos_right hg' (by omega)
    omega
  · have : 1 * q ≤ (g : Int) * q := Int.mul_le_mul_of_nonneg_right hg' hq
    omega
theorem mkR_small {n d : Int} (hd : 0 < d) (hn0 : -4000000000000000000 ≤ n) (hn1 : n ≤ 4000000000000000000) (hd1 : d ≤ 4000000000000000000) :
    mkR n d = ⟨encI (n / (Int.gcd n d : Nat)), dig (d / (Int.gcd n d : Nat)).toNat⟩ := by
  have hg := gcd_pos_right (a := n) hd
  have h1 := div_bound hg (Int.gcd_dvd_left n d) hn0 hn1
  have h2 := div_bound hg (Int.gcd_dvd_right n d) (show -4000000000000000000 ≤ d by omega) hd1
  have h3 : 0 ≤ d / (Int.gcd n d : Nat) := Int.ediv_nonneg (by omega) (by omega)
  have e : (d / (Int.gcd n d : Nat)).natAbs = (d / (Int.gcd n d : Nat)).toNat := by omega
  unfold mkR
  rw [e, if_pos]
  have p := pw_mono (show 3 ≤ 24 by decide)
  rw [pw_vals.2.2] at p
  exact ⟨dig_len (by omega), dig_len (by omega)⟩

end Go.Proofs.YthlpjpcnpcclhaaDoor.X

/- The program's fractions: RatMake, RatOf, RatFromInt. -/
namespace Go.Proofs.YthlpjpcnpcclhaaDoor.X
open Go.RowKit Go.XB Go.XN

/-- a sign before a magnitude that another operation made -/
def _root_.Go.XB.MP.sgd (s : Bool) (mag : List Int) (u : Value) : MP := ⟨fun v bs w => v = .agg #[.bool s, u] ∧ bs = [] ∧ ∃ A n c b', u = .slice A n c ∧ Sl w A n c mag b', fun _ _ _ _ hb h => ⟨h.1, h.2.1, by obtain ⟨A, n, c, b', e, hs⟩ := h.2.2; exact ⟨A, n, c, b', e, hs.below hb⟩⟩⟩
theorem gives_sgd {P : Program} {f : FuncId} {args : Array Value} {w : World} {s : Bool} {mag : List Int} {A : Option Addr} {n c : Nat} {b' : List Nat} (hs : Sl w A n c mag b') (h : Calls P f args w (Gives w (.agg #[.bool s, .slice A n c]))) :
    Calls P f args w fun e w' => ∃ u, e = .returned u ∧ Below w.heap.size w w' ∧ ∃ bs, (MP.sgd s mag (.slice A n c)).p u bs w' ∧ ∀ b ∈ bs, w.heap.size ≤ b ∧ b < w'.heap.size :=
  h.mono fun _ _ ⟨he, hb⟩ => ⟨_, he, hb, [], ⟨rfl, rfl, A, n, c, b', rfl, hs.below hb⟩, fun b hb => by simp at hb⟩
theorem mkR_ok {X : TBigInt} {ys : List Int} (cx : XN.Can X.mag) (nx : NegOk X) (cy : XN.Can ys) (hy : 0 < val ys) (h1 : Int.gcd (val X.mag) (val ys) = 1) (h24 : X.mag.length ≤ 24) (d24 : ys.length ≤ 24) : mkR (ival X) (val ys) = ⟨X, ys⟩ := by
  rw [red_mk cx nx hy, h1, Int.natCast_one, Int.ediv_one, Int.ediv_one, ← cx.eq_dig, ← cy.eq_dig, if_pos ⟨h24, d24⟩]

attribute [local go_sem] fillBy opAt deps depOf Region.wanted yielded
attribute [local simp] deps depOf MP.eq MP.agg MP.sl MP.sgd Facts

theorem agg_fin {α : Type} [Dat α] {w u W : World} {lo : Nat} {v : Value} {x : α} {bs : List Nat} (h : Agg u v x bs) (hf : Free u bs) (hr : ∀ b ∈ bs, lo ≤ b) (hl : w.heap.size ≤ lo) (ha : Above lo u W) (hb : Below w.heap.size w W) : GivesAgg w x (.returned v) W :=
  have hk : ∀ g ∈ bs, W.heap[g]? = u.heap[g]? := fun g hg => ha.block g (hr g hg) (h.lt g hg)
  ⟨v, bs, rfl, h.keep hk, ⟨hf.1, fun b hb => ⟨Nat.le_trans hl (hr b hb), by obtain ⟨cs, t, e⟩ := hf.2 b hb; exact ⟨cs, t, (hk b hb).trans e⟩⟩⟩, hb⟩
/-- the numerator's sign and magnitude -/
def signedBy (x y : TBigInt) : TBigInt := ⟨(x.neg != y.neg) && !x.mag.isEmpty, x.mag⟩
theorem signedBy_neg (x y : TBigInt) : NegOk (signedBy x y) := by
  intro h e
  have e' : x.mag = [] := e
  have h' : ((x.neg != y.neg) && !x.mag.isEmpty) = true := h
  rw [e'] at h'
  simp at h'

theorem enc_ok (n : Int) (h : I64 n) : bigOkB (encI n) = true := by
  rw [bigOkB_iff]
  refine ⟨⟨?_, encI_can n⟩, ?_⟩
  · have p := pw_mono (show 3 ≤ 60 by decide)
    rw [pw_vals.2.2] at p
    exact dig_len (by have := h.1; have := h.2; omega)
  · intro hn
    unfold encI at hn ⊢
    simp at hn
    simp only [Ne, dig_nil]; omega
theorem signedBy_enc {n d : Int} (hd : 0 < d) : ival (signedBy (encI n) (encI d)) = n ∧ val (encI d).mag = d := by
  refine ⟨?_, by show val (dig d.natAbs) = d; rw [val_dig]; omega⟩
  have e : (encI d).neg = false := by unfold encI; simp; omega
  have h := enc_ival (x := signedBy (encI n) (encI d))
  unfold signedBy ival
  rw [e]
  show (if ((encI n).neg != false && !(dig n.natAbs).isEmpty) = true then -val (dig n.natAbs) else val (dig n.natAbs)) = n
  rw [val_dig]
  unfold encI
  by_cases h0 : n < 0
  · have : dig n.natAbs ≠ [] := by rw [Ne, dig_nil]; omega
    rw [if_pos (by simp [h0, this])]; omega
  · rw [if_neg (by simp [h0])]; omega

theorem mkR_one (n : Int) (h : I64 n) : mkR n 1 = rint n := by
  unfold mkR rint
  rw [Int.gcd_one_right, Int.natCast_one, Int.ediv_one, Int.ediv_one, if_pos]
  · rfl
  · have p := pw_mono (show 3 ≤ 24 by decide)
    rw [pw_vals.2.2] at p
    exact ⟨dig_len (by have := h.1; have := h.2; omega), by decide⟩

end Go.Proofs.YthlpjpcnpcclhaaDoor.X

/- The program's fractions: RatMul. -/
namespace Go.Proofs.YthlpjpcnpcclhaaDoor.X
open Go.RowKit Go.XB Go.XN
attribute [local go_sem] fillBy opAt deps depOf Region.wanted yielded
attribute [local simp] deps depOf MP.eq MP.agg MP.sl MP.sgd MP.box Facts

section
variable {r s : TRat}
theorem _root_.Go.XN.RatV.lim (h : RatV r) (hs : smallB r = true) : (0 < denv r ∧ denv r < 1000000000) ∧ (-1000000000 < numv r ∧ numv r < 1000000000) := by
  unfold smallB at hs
  simp only [Bool.and_eq_true, decide_eq_true_eq] at hs
  exact ⟨⟨h.den0, (denv_small h.den hs.2).2⟩, numv_small h.mag.1 hs.1⟩
theorem mul_lim2 {a b : Int} (ha : -1000000000 < a ∧ a < 1000000000) (hb : -1000000000 < b ∧ b < 1000000000) : -1000000000000000000 ≤ a * b ∧ a * b ≤ 1000000000000000000 := by
  have h : (a * b).natAbs ≤ 1000000000 * 1000000000 := by rw [Int.natAbs_mul]; exact Nat.mul_le_mul (by omega) (by omega)
  omega
theorem len_mul {a b : Int} {m n : Nat} (ha : (a.natAbs : Int) < pw m) (hb : (b.natAbs : Int) < pw n) : ((a * b).natAbs : Int) < pw (m + n) := by
  rw [Int.natAbs_mul, pw_add, Int.natCast_mul]
  have h1 := pw_pos n
  rcases Nat.eq_zero_or_pos b.natAbs with h | h
  · rw [h]; simp; exact Int.mul_pos (pw_pos m) h1
  · have h2 : (a.natAbs : Int) * b.natAbs < pw m * b.natAbs := Int.mul_lt_mul_of_pos_right ha (by omega)
    have h3 : pw m * b.natAbs ≤ pw m * pw n := Int.mul_le_mul_of_nonneg_left (by omega) (Int.le_of_lt (pw_pos m))
    omega
theorem len_add {a b : Int} {m : Nat} (ha : (a.natAbs : Int) < pw m) (hb : (b.natAbs : Int) < pw m) : ((a + b).natAbs : Int) < pw (m + 1) := by
  rw [pw_succ]; omega
theorem enc_len {T : Int} {m : Nat} (h : (T.natAbs : Int) < pw m) : (encI T).mag.length ≤ m := dig_len h
theorem enc_negok (T : Int) : NegOk (encI T) := by
  intro h
  unfold encI at h ⊢
  simp only [decide_eq_true_eq] at h
  simp only [Ne, dig_nil]; omega
theorem _root_.Go.XN.RatV.numlt (h : RatV r) : ((numv r).natAbs : Int) < pw 24 := by
  have h1 := val_lt h.mag.1
  have h2 := pw_mono h.num24
  have h3 := val_nonneg h.mag.1
  unfold numv ival
  split <;> omega
theorem _root_.Go.XN.RatV.denlt (h : RatV r) : ((denv r).natAbs : Int) < pw 24 := by
  have h1 := val_lt h.den.1
  have h2 := pw_mono h.den24
  have h3 := h.den0
  unfold denv
  omega
theorem _root_.Go.XN.RatV.den_nonneg (h : RatV r) : 0 < denv r := h.den0
/-- the product of denominators, as limbs -/
structure DenD (D : Int) : Prop where
  can : XN.Can (dig D.toNat)
  v : val (dig D.toNat) = D
  pos : 0 < (dig D.toNat).length
  le : (dig D.toNat).length ≤ 65536
theorem _root_.Go.XN.RatV.denD (h : RatV r) (h' : RatV s) : DenD (denv r * denv s) := by
  have h0 : 0 < denv r * denv s := Int.mul_pos h.den0 h'.den0
  have h1 := len_mul h.denlt h'.denlt
  rw [show 24 + 24 = 48 from rfl] at h1
  refine ⟨dig_can _, by rw [val_dig]; omega, List.length_pos_iff.2 (by rw [Ne, dig_nil]; omega), ?_⟩
  have : (dig (denv r * denv s).toNat).length ≤ 48 := dig_len (by omega)
  omega
theorem ok_two {b : Bool} (h : (ratOkB r && ratOkB s) = b) : [r, s].all ratOkB = b := by rw [← h]; simp

end

end Go.Proofs.YthlpjpcnpcclhaaDoor.X

/- The program's fractions: compare, negative, plus. -/
namespace Go.Proofs.YthlpjpcnpcclhaaDoor.X
open Go.RowKit Go.XB Go.XN
attribute [local go_sem] fillBy opAt deps depOf Region.wanted yielded
attribute [local simp] deps depOf MP.eq MP.agg MP.sl MP.sgd MP.box Facts

/-- a structure that lies in memory of others -/
def _root_.Go.XB.MP.aggS {α : Type} [Dat α] (x : α) : MP := ⟨fun v bs w => bs = [] ∧ ∃ s, Agg w v x s, fun _ _ _ _ hb h => ⟨h.1, by obtain ⟨s, hs⟩ := h.2; exact ⟨s, hs.below hb⟩⟩⟩
/-- a call that hands back such a structure -/
def GivesS {α : Type} [Dat α] (w : World) (x : α) (e : Ending) (w' : World) : Prop := ∃ v s, e = .returned v ∧ Agg w' v x s ∧ Below w.heap.size w w'
theorem gives_aggS {α : Type} [Dat α] {P : Program} {f : FuncId} {args : Array Value} {w : World} {x : α} (h : Calls P f args w (GivesS w x)) :
    Calls P f args w fun e w' => ∃ u, e = .returned u ∧ Below w.heap.size w w' ∧ ∃ bs, (MP.aggS x).p u bs w' ∧ ∀ b ∈ bs, w.heap.size ≤ b ∧ b < w'.heap.size :=
  h.mono fun _ _ ⟨v, s, he, ha, hb⟩ => ⟨v, he, hb, [], ⟨rfl, s, ha⟩, fun b hb => by simp at hb⟩
attribute [local simp] MP.aggS

theorem den_big {r : TRat} {W : World} {A : Option Addr} {n c : Nat} {b : List Nat} (h : Sl W A n c r.den b) : Agg W (.agg #[.bool false, .slice A n c]) (⟨false, r.den⟩ : TBigInt) b ∧ ival ⟨false, r.den⟩ = denv r :=
  ⟨TBigInt.mkAgg (x := ⟨false, r.den⟩) h, by unfold ival denv; simp⟩

theorem neg_enc {x : TBigInt} (h : bigOkB x = true) : encI (-ival x) = ⟨!x.neg && !x.mag.isEmpty, x.mag⟩ := by
  have hc := (bigOkB_iff.1 h).1.2
  have := sign_enc (neg := !x.neg) hc (v := -ival x) (by unfold ival; cases x.neg <;> simp)
  exact this.symm
end Go.Proofs.YthlpjpcnpcclhaaDoor.X

/- The program's fractions: plus. -/
namespace Go.Proofs.YthlpjpcnpcclhaaDoor.X
open Go.RowKit Go.XB Go.XN
attribute [local go_sem] fillBy opAt deps depOf Region.wanted yielded
attribute [local simp] deps depOf MP.eq MP.agg MP.sl MP.sgd MP.box MP.aggS Facts

theorem keep_sl {α : Type} [Dat α] {w : World} {g : Nat} {A : Option Addr} {n c : Nat} {xs : List α} {bs : List Nat} (h : Sl w A n c xs bs) (hf : Free w bs) (hg : ∀ b ∈ bs, b ≠ g) (u0 u1 : Value) :
    Sl ((w.setCell ⟨g, 0, none⟩ u0).setCell ⟨g, 1, none⟩ u1) A n c xs bs ∧ Free ((w.setCell ⟨g, 0, none⟩ u0).setCell ⟨g, 1, none⟩ u1) bs :=
  have hk : ∀ b ∈ bs, ((w.setCell ⟨g, 0, none⟩ u0).setCell ⟨g, 1, none⟩ u1).heap[b]? = w.heap[b]? := fun b hb =>
    (Below.heap_setCell _ ⟨g, 1, none⟩ u1 b (hg b hb)).trans (Below.heap_setCell w ⟨g, 0, none⟩ u0 b (hg b hb))
  ⟨h.keep hk, hf.1, fun b hb => by obtain ⟨cs, t, e⟩ := hf.2 b hb; exact ⟨cs, t, (hk b hb).trans e⟩⟩

end Go.Proofs.YthlpjpcnpcclhaaDoor.X

/- The program's fractions: RatAdd, RatSub, RatMin, RatMax, isRat. -/
namespace Go.Proofs.YthlpjpcnpcclhaaDoor.X
open Go.RowKit Go.XB Go.XN
attribute [local go_sem] fillBy opAt deps depOf Region.wanted yielded
attribute [local simp] deps depOf MP.eq MP.agg MP.sl MP.sgd MP.box MP.aggS Facts

theorem _root_.Go.XN.RatV.neg {x : TRat} (h : RatV x) : RatV ⟨encI (-numv x), x.den⟩ := by
  have e : encI (-numv x) = ⟨!x.num.neg && !x.num.mag.isEmpty, x.num.mag⟩ := by unfold numv; exact neg_enc h.num
  have hb := bigOkB_iff.1 h.num
  refine ⟨?_, h.den, h.den0, ?_, h.den24, ?_⟩
  · show bigOkB (encI (-numv x)) = true
    rw [e, bigOkB_iff]
    refine ⟨hb.1, fun hn => ?_⟩
    simp at hn
    simp only
    intro e0; rw [e0] at hn; simp at hn
  · show (encI (-numv x)).mag.length ≤ 24
    rw [e]; exact h.num24
  · show Int.gcd (val (encI (-numv x)).mag) (val x.den) = 1
    rw [e]; exact h.one
theorem numv_neg (x : TRat) : numv ⟨encI (-numv x), x.den⟩ = -numv x ∧ denv ⟨encI (-numv x), x.den⟩ = denv x := ⟨by show ival (encI (-numv x)) = _; rw [ival_enc], rfl⟩
theorem _root_.Go.XN.RatV.lens {x : TRat} (h : RatV x) : x.num.mag.length ≤ 1048576 ∧ x.den.length ≤ 1048576 := ⟨Nat.le_trans h.num24 (by decide), Nat.le_trans h.den24 (by decide)⟩

end Go.Proofs.YthlpjpcnpcclhaaDoor.X
