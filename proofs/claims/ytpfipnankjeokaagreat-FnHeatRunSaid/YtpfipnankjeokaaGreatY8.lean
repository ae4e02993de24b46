/- Part of a claim's proof: texts of this repository's wip,joined by prune.py,without the theorems that the claim does not reach. -/
import Derived.Test.YtpfipnankjeokaaGreatY7
import Derived.Test.YtpfipnankjeokaaGreatY3
import Derived.Deep.LoopGhost
set_option linter.constructorNameAsVariable false
namespace Go.Proofs.YtpfipnankjeokaaGreat.X
open Go.RowKit Go.XB Go.XN
attribute [local go_sem] fillBy opAt deps depOf Region.wanted yielded
attribute [local simp] deps depOf MP.eq Facts

theorem gcd_step {a b : Int} : Int.gcd b (a % b) = Int.gcd a b := by
 have h := Int.gcd_add_mul_left_right b (a % b) (a / b)
 rw [Int.emod_add_mul_ediv] at h
 rw [← h,Int.gcd_comm]
theorem ownsRow_base {w : World} {b b' : Nat} {e : TypeId} {size : Nat} {v : Value} {n : Nat} {xs : List Value} (h : w.ownsRow b e size v n xs) (hb : b' ≤ b) : w.ownsRow b' e size v n xs := by
 refine ⟨h.1, ?_⟩
 rcases h.2 with h2 | ⟨g,cap,cur,h1,h2,h3⟩
 ·exact .inl h2
 ·exact .inr ⟨g,cap,cur,h1,Nat.le_trans hb h2,h3⟩

set_option maxHeartbeats 1000000 in
theorem impl_natGcd (A B : Option Addr) (n m c d : Nat) (xs ys : List Int) (bs ds : List Nat) (w : World) (hx : Sl w A n c xs bs) (hy : Sl w B m d ys ds) (hcx : XN.Can xs) (hcy : XN.Can ys) (hn : n ≤ 65536) (hm : m ≤ 65536) :
  Calls Tryz.prog 99 #[.slice A n c, .slice B m d] w (GivesRow w 3 (dig (Int.gcd (val xs) (val ys)))) := by
 have HX := hid hx
 have HY := hid hy
 have CX := hid hcx
 have CY := hid hcy
 clear hx hy hcx hcy
 go_enter Tryz.func99,Tryz.ntmps99
 go_wp2_with fail
 go_loopg [0,1,6] (val ys).toNat (fun g s0 s1 s6 wr => ∃ (A B : Option Addr) (n m c d : Nat) (x y : List Int) (bs ds : List Nat),s0 = .slice A n c ∧ s1 = .slice B m d ∧ Hid (Sl wr A n c x bs) ∧ Hid (Sl wr B m d y ds) ∧ Hid (XN.Can x) ∧ Hid (XN.Can y) ∧ n ≤ 65536 ∧ m ≤ 65536 ∧ Hid (Int.gcd (val x) (val y) = Int.gcd (val xs) (val ys)) ∧ Hid (val y = g) ∧ Below w.heap.size w wr)
 case atStart => exact ⟨A,B,n,m,c,d,xs,ys,bs,ds,rfl,rfl,HX.out,HY.out,CX,CY,hn,hm,rfl,(Int.toNat_of_nonneg (val_nonneg CY.out.1)).symm,Below.refl _ _⟩
 case round =>
  obtain ⟨A,B,n,m,c,d,x,y,bs,ds,rfl,rfl,hx,hy,cx,cy,hn,hm,hg,hk,hb⟩ := hrel
  have hl := hid (show y.length = m from hy.out.1)
  by_cases hm0 : 0 < m
  ·have hyp := hid (cy.out.pos (by intro e; have := hl.out; rw [e] at this; simp at this; omega))
   go_wp2_with fail
   refine (impl_natDiv A B n m c d x y bs ds wr hx.out hy.out cx.out cy.out hn hm0).mono ?_
   rintro _ w1 ⟨A1,n1,c1,b1,A2,n2,c2,b2,rfl,hq,hr,ho,hb1⟩
   have HR := hid hr
   have HY1 := hid (Sl.below hy.out hb1)
   have hb2 : Below w.heap.size w w1 := Below.next hb hb1
   have rl := hid (show n2 ≤ m by
    rw [← hr.1]
    refine dig_len ?_
    have h1 := Int.emod_lt_of_pos (val x) hyp.out
    have h2 := Int.emod_nonneg (val x) (show val y ≠ 0 by have := hyp.out; omega)
    have h3 := val_lt cy.out.1
    rw [hl.out] at h3
    omega)
   have r1 := hid (show Int.gcd (val y) (val (dig (val x % val y).toNat)) = Int.gcd (val xs) (val ys) by
    rw [val_dig,Int.toNat_of_nonneg (Int.emod_nonneg _ (by have := hyp.out; omega)),gcd_step]; exact hg.out)
   have r2 := hid (show val (dig (val x % val y).toNat) = ((val x % val y).toNat : Int) from val_dig _)
   have rm := hid (show (val x % val y).toNat < gk by
    have h1 := Int.emod_lt_of_pos (val x) hyp.out
    have h2 := hk.out
    have h3 := hyp.out
    omega)
   have rn := hid (show n2 ≤ 65536 from Nat.le_trans rl.out hm)
   clear hq hr ho hb hb1
   have CR := hid (dig_can (val x % val y).toNat)
   go_wp2_with fail
   go_roundg (val x % val y).toNat
   case measure => exact rm.out
   case rel => exact ⟨B,A2,m,n2,d,c2,y, _,ds,b2,rfl,rfl,HY1.out,HR.out,cy,CR.out,hm,rn.out,r1.out,r2.out,hb2⟩
  ·obtain rfl : m = 0 := by omega
   have e := hid (show x = dig (Int.gcd (val xs) (val ys)) by
    rw [← hg.out,show val y = 0 by rw [List.eq_nil_of_length_eq_zero hl.out]; rfl,Int.gcd_zero_right]
    exact (cx.out.dig_natAbs).symm)
   go_wp2_with fail
   refine (clone_row A n c x bs wr hx.out (Nat.le_trans hn (by decide))).mono ?_
   rintro _ w1 ⟨v1,rfl,hown,hb1⟩
   have hb2 : Below w.heap.size w w1 := Below.next hb hb1
   have hown1 := ownsRow_base hown hb.size
   rw [e.out] at hown1
   go_wp2
   go_ret
   exact ⟨_,rfl,hown1,hb2⟩

set_option maxHeartbeats 1000000 in
theorem impl_gcd (a b : Int) (w : World) (ha : 0 ≤ a) (hb : 0 ≤ b) (ha1 : a ≤ 9223372036854775807) (hb1 : b ≤ 9223372036854775807) :
  Calls Tryz.prog 97 #[.int .i64 a, .int .i64 b] w (Gives w (.int .i64 (Int.gcd a b))) := by
 go_enter Tryz.func97,Tryz.ntmps97
 go_wp2_with fail
 go_loopg [0,1] b.toNat (fun g s0 s1 wr => ∃ x y : Int,s0 = .int .i64 x ∧ s1 = .int .i64 y ∧ 0 ≤ x ∧ x ≤ 9223372036854775807 ∧ 0 ≤ y ∧ y ≤ 9223372036854775807 ∧ Hid (Int.gcd x y = Int.gcd a b) ∧ Hid (y = g) ∧ Below w.heap.size w wr)
 case atStart => exact ⟨a,b,rfl,rfl,ha,ha1,hb,hb1,rfl,(Int.toNat_of_nonneg hb).symm,Below.refl _ _⟩
 case round =>
  obtain ⟨x,y,rfl,rfl,hx0,hx1,hy0,hy1,hg,hk,hbw⟩ := hrel
  by_cases hy : 0 < y
  ·have r0 := hid (show 0 ≤ x % y ∧ x % y < y from ⟨Int.emod_nonneg _ (by omega),Int.emod_lt_of_pos _ hy⟩)
   have r1 := hid (show Int.gcd y (x % y) = Int.gcd a b by rw [gcd_step]; exact hg.out)
   have rm := hid (show (x % y).toNat < gk ∧ x % y ≤ 9223372036854775807 ∧ x % y = ((x % y).toNat : Int) by have := r0.out; have := hk.out; omega)
   go_wp2_with fail
   refine wp_region_walk (by kernel_rfl) (by kernel_rfl) (by kernel_rfl) ?_
   iterate 3
    apply walkM_eq
    case h =>
     intro yq zq wq hC hd
     obtain ⟨hcq,hfq⟩ := bcell hC
     simp at hd
     refine ⟨by go_simp; done, ?_⟩
     go_simp
     first | (go_ints; exact rfl) | (go_ints; rw [if_pos (by omega)]; try exact rfl) | exact rfl | (rw [if_pos (by omega)]; try exact rfl)
   refine walkM_eq (Value.int .i64 (x % y)) ?_ ?_
   ·intro yq zq wq hC hd
    obtain ⟨hcq,hfq⟩ := bcell hC
    simp at hd
    refine ⟨by go_simp; done, ?_⟩
    go_simp
    rw [if_neg (by omega),Int.tmod_eq_emod_of_nonneg hx0]
   iterate 2
    apply walkM_eq
    case h =>
     intro yq zq wq hC hd
     obtain ⟨hcq,hfq⟩ := bcell hC
     simp at hd
     refine ⟨by go_simp; done, ?_⟩
     go_simp
     first | (go_ints; exact rfl) | (go_ints; rw [if_pos (by omega)]; try exact rfl) | exact rfl | (rw [if_pos (by omega)]; try exact rfl)
   intro yq zq wa hC hd hdis0
   have hdis := hid hdis0
   clear hdis0
   simp at hd
   go_simp
   clear hd hdis
   have hb2 := Below.next hbw hC
   clear hC
   go_wp2_with fail
   go_roundg (x % y).toNat
   case measure => exact rm.out.1
   case rel => exact ⟨y,x % y,rfl,rfl,hy0,hy1,r0.out.1,rm.out.2.1,r1,rm.out.2.2,hb2⟩
  ·obtain rfl : y = 0 := by omega
   have e := hid (show x = (Int.gcd a b : Int) by rw [← hg.out,Int.gcd_zero_right]; omega)
   go_wp2
   go_ret
   exact ⟨ret_int e.out,hbw⟩

set_option maxHeartbeats 1000000 in
theorem impl_isOne (A : Option Addr) (n c : Nat) (xs : List Int) (bs : List Nat) (w : World) (hx : Sl w A n c xs bs) :
  Calls Tryz.prog 98 #[.slice A n c] w (Gives w (.bool (decide (xs = [1])))) := by
 have HL := hid hx.1
 by_cases h1 : n = 1
 ·subst h1
  obtain ⟨b,off,x,rfl,hbl,hx1,hI,hc⟩ := Sl.getInt hx (k := 0) (by decide)
  simp only [Nat.add_zero] at hc
  have e := hid (show (x == 1) = decide (xs = [1]) by
   have h := HL.out
   match xs,h with
   | [y], _ => simp at hx1; subst hx1; simp; rfl)
  clear hx hx1
  go_enter Tryz.func98,Tryz.ntmps98
  go_wp2
  go_ret
  exact ⟨ret_bool e.out,Below.go⟩
 ·have e := hid (show decide (xs = [1]) = false by
   simp; intro h; apply h1; rw [← HL.out,h]; rfl)
  have hn : ((n : Int) == 1) = false := by simp; omega
  clear hx h1
  go_enter Tryz.func98,Tryz.ntmps98
  go_wp2
  go_ret
  exact ⟨ret_bool e.out.symm,Below.go⟩

set_option maxHeartbeats 1000000 in
theorem impl_signed (neg : Bool) (A : Option Addr) (n c : Nat) (w : World) :
  Calls Tryz.prog 104 #[.bool neg, .slice A n c] w (Gives w (.agg #[.bool (neg && decide (0 < n)), .slice A n c])) := by
 cases neg
 ·go_enter Tryz.func104,Tryz.ntmps104
  go_wp2
  exact bodyPost_ret (v := .agg #[.bool false, .slice A n c]) (by simp [results,Tryz.results104,go_sem]) rfl ⟨rfl,Below.go⟩
 ·by_cases h0 : 0 < n
  ·have e : decide (0 < n) = true := by simpa using h0
   rw [e]
   go_enter Tryz.func104,Tryz.ntmps104
   go_wp2
   exact bodyPost_ret (v := .agg #[.bool true, .slice A n c]) (by simp [results,Tryz.results104,go_sem]) rfl ⟨rfl,Below.go⟩
  ·obtain rfl : n = 0 := by omega
   go_enter Tryz.func104,Tryz.ntmps104
   go_wp2
   exact bodyPost_ret (v := .agg #[.bool false, .slice A 0 c]) (by simp [results,Tryz.results104,go_sem]) rfl ⟨rfl,Below.go⟩

theorem u64_neg {n : Int} (h0 : n < 0) (h1 : -9223372036854775808 ≤ n) : IntKind.u64.wrap (-IntKind.u64.wrap n) = -n := by
 simp [IntKind.wrap,IntKind.signed,IntKind.bits]; omega
theorem fin_sl {α : Type} [Dat α] {w w0 u W : World} {lo : Nat} {A : Option Addr} {n c : Nat} {xs : List α} {bs : List Nat} (h : Sl u A n c xs bs) (ho : Own w0 u bs) (hs : w.heap.size ≤ w0.heap.size) (hl : lo ≤ w0.heap.size) (ha : Above lo u W) : Sl W A n c xs bs ∧ Own w W bs :=
 ⟨Sl.above h ho ha hl,(ho.above ha hl).older hs⟩

set_option maxHeartbeats 1000000 in
theorem impl_BigIntOf (N : Int) (w : World) (h : I64 N) : Calls Tryz.prog 66 #[.int .i64 N] w (GivesAgg w (encI N)) := by
 have h0 := h.1
 have h1 := h.2
 rcases Int.lt_or_le N 0 with hN | hN
 ·have E := hid (u64_neg hN h0)
  have E1 := hid (show 0 ≤ IntKind.u64.wrap (-IntKind.u64.wrap N) ∧ IntKind.u64.wrap (-IntKind.u64.wrap N) ≤ 18446744073709551615 by rw [E.out]; omega)
  have E3 := hid (show dig (IntKind.u64.wrap (-IntKind.u64.wrap N)).toNat = (encI N).mag by rw [E.out,show (-N).toNat = N.natAbs by omega]; rfl)
  go_enter Tryz.func66,Tryz.ntmps66
  go_wp2_with fail
  refine (impl_natOf (IntKind.u64.wrap (-IntKind.u64.wrap N)) _ E1.out.1 E1.out.2).mono ?_
  rintro _ w1 ⟨A,n,c,bs,rfl,hs,ho,hb1⟩
  rw [E3.out] at hs
  have HS := hid hs
  have HO := hid ho
  obtain ⟨hc_w1,hf_w1⟩ := bcell hb1
  have hz0_w1 : w.heap.size < w1.heap.size := by have := hb1.size; (try simp at this); omega
  have E2 := hid (show (true && decide (0 < n)) = (encI N).neg by
   have := hs.1
   unfold encI at this ⊢
   simp only [hN,Bool.true_and,decide_true,decide_eq_true_eq]
   rw [← this]
   have : dig N.natAbs ≠ [] := by rw [Ne,dig_nil]; omega
   exact List.length_pos_iff.2 this)
  clear hs ho
  go_wp2_with fail
  have C := impl_signed true A n c w1
  rw [E2.out] at C
  refine C.mono ?_
  clear C
  rintro _ w2 ⟨rfl,hb2⟩
  obtain ⟨hc_w2,hf_w2⟩ := bcell hb2
  have hz0_w2 : w.heap.size < w2.heap.size := by have := hb2.size; (try simp at this); omega
  go_wp2
  refine bodyPost_ret (v := .agg #[.bool (encI N).neg, .slice A n c]) (by simp [results,Tryz.results66,go_sem, *]) rfl ?_
  have f := fun (W : World) (ha : Above (w.heap.size + 1) w1 W) => fin_sl (w := w) HS.out HO.out (by simp) (by simp) ha
  exact ⟨_,bs,rfl,TBigInt.mkAgg (f _ Above.go).1,(f _ Above.go).2,Below.go⟩
 ·have E3 := hid (show dig N.toNat = (encI N).mag by rw [show N.toNat = N.natAbs by omega]; rfl)
  go_enter Tryz.func66,Tryz.ntmps66
  go_wp2_with fail
  refine (impl_natOf N _ hN (by omega)).mono ?_
  rintro _ w1 ⟨A,n,c,bs,rfl,hs,ho,hb1⟩
  rw [E3.out] at hs
  have HS := hid hs
  have HO := hid ho
  obtain ⟨hc_w1,hf_w1⟩ := bcell hb1
  have hz0_w1 : w.heap.size < w1.heap.size := by have := hb1.size; (try simp at this); omega
  clear hs ho
  go_wp2_with fail
  have E2 := hid (show (false && decide (0 < n)) = (encI N).neg by unfold encI; simp; omega)
  have C := impl_signed false A n c w1
  rw [E2.out] at C
  refine C.mono ?_
  clear C
  rintro _ w2 ⟨rfl,hb2⟩
  obtain ⟨hc_w2,hf_w2⟩ := bcell hb2
  have hz0_w2 : w.heap.size < w2.heap.size := by have := hb2.size; (try simp at this); omega
  go_wp2
  refine bodyPost_ret (v := .agg #[.bool (encI N).neg, .slice A n c]) (by simp [results,Tryz.results66,go_sem, *]) rfl ?_
  have f := fun (W : World) (ha : Above (w.heap.size + 1) w1 W) => fin_sl (w := w) HS.out HO.out (by simp) (by simp) ha
  exact ⟨_,bs,rfl,TBigInt.mkAgg (f _ Above.go).1,(f _ Above.go).2,Below.go⟩
end Go.Proofs.YtpfipnankjeokaaGreat.X
namespace Go.Proofs.YtpfipnankjeokaaGreat.X
open Go.RowKit Go.XB Go.XN
attribute [local go_sem] fillBy opAt deps depOf Region.wanted yielded
attribute [local simp] deps depOf MP.eq MP.agg MP.sl Facts

theorem _root_.Go.XN.enc_of {neg : Bool} {N : Nat} {v : Int} (hv : v = if neg then -(N : Int) else N) : (encI v).mag = dig N ∧ (encI v).neg = (neg && decide (0 < (dig N).length)) := by
 have := sign_enc (neg := neg) (dig_can N) (v := v) (by rw [val_dig]; exact hv)
 rw [← this]
 refine ⟨rfl, ?_⟩
 cases dig N <;> simp
theorem _root_.Go.XN.mul_val {x y : TBigInt} (hx : Lims x.mag) (hy : Lims y.mag) : ival x * ival y = if x.neg != y.neg then -((val x.mag * val y.mag).toNat : Int) else (val x.mag * val y.mag).toNat := by
 have h := Int.mul_nonneg (val_nonneg hx) (val_nonneg hy)
 rw [Int.toNat_of_nonneg h]
 unfold ival
 cases x.neg <;> cases y.neg <;> simp [Int.neg_mul,Int.mul_neg]
theorem big_fin {w W : World} {t : Int} {A : Option Addr} {n c : Nat} {bs : List Nat} (h : Sl W A n c (encI t).mag bs ∧ Own w W bs) (hb : Below w.heap.size w W) : GivesAgg w (encI t) (.returned (.agg #[.bool (encI t).neg, .slice A n c])) W :=
 ⟨_,bs,rfl,TBigInt.mkAgg h.1,h.2,hb⟩

theorem fin_own {α : Type} [Dat α] {w u W : World} {lo : Nat} {A : Option Addr} {n c : Nat} {xs : List α} {bs : List Nat} (h : Sl u A n c xs bs) (hf : Free u bs) (hr : ∀ b ∈ bs,lo ≤ b) (hl : w.heap.size ≤ lo) (ha : Above lo u W) : Sl W A n c xs bs ∧ Own w W bs :=
 have hk : ∀ g ∈ bs,W.heap[g]? = u.heap[g]? := fun g hg => ha.block g (hr g hg) (h.lt g hg)
 ⟨h.keep hk,hf.1,fun b hb => ⟨Nat.le_trans hl (hr b hb),by obtain ⟨cs,t,e⟩ := hf.2 b hb; exact ⟨cs,t,(hk b hb).trans e⟩⟩⟩

set_option maxHeartbeats 1000000 in
theorem impl_bigMul (v1 v2 : Value) (x y : TBigInt) (b1 b2 : List Nat) (w : World) (hx : Agg w v1 x b1) (hy : Agg w v2 y b2) (cx : Lims x.mag) (cy : Lims y.mag) (lx : x.mag.length ≤ 1048576) (ly : y.mag.length ≤ 1048576) :
  Calls Tryz.prog 57 #[v1,v2] w (GivesAgg w (encI (ival x * ival y))) := by
 obtain ⟨A1,n1,c1,s1,rfl,rfl,hs1⟩ := TBigInt.agg hx
 obtain ⟨A2,n2,c2,s2,rfl,rfl,hs2⟩ := TBigInt.agg hy
 have H1 := hid hs1; have H2 := hid hs2
 have E := hid (enc_of (mul_val cx cy))
 have CX := hid cx; have CY := hid cy; have LX := hid lx; have LY := hid ly
 clear hs1 hs2 hx hy cx cy lx ly
 go_enter Tryz.func57,Tryz.ntmps57
 go_wp2_with fail
 refine wp_region_last (by simp) (by kernel_rfl) (by kernel_rfl) (by kernel_rfl) (by kernel_rfl) ?_
 dsimp only [List.dropLast,List.getLast,List.length]
 iterate 9
  apply walkM_eq
  case h =>
   intro yq zq wq hC hd
   obtain ⟨hcq,hfq⟩ := bcell hC
   simp at hd
   refine ⟨by go_simp; done, ?_⟩
   go_simp
   first | (go_ints; exact rfl) | (go_ints; rw [if_pos (by omega)]; try exact rfl) | exact rfl | (rw [if_pos (by omega)]; try exact rfl)
 refine walkM_call (MP.sl (encI (ival x * ival y)).mag) ?_ ?_
 ·intro yq zq wq hC hd
  obtain ⟨hcq,hfq⟩ := bcell hC
  simp at hd
  refine ⟨by go_simp; done, ?_⟩
  apply Exists.intro
  apply Exists.intro
  constructor
  ·go_simp
   exact ⟨rfl,rfl⟩
  ·have := impl_natMul A1 A2 n1 n2 c1 c2 x.mag y.mag _ _ wq (Sl.below H1.out Below.go) (Sl.below H2.out Below.go) CX.out CY.out (by rw [← H1.out.1]; exact LX.out) (by rw [← H2.out.1]; exact LY.out)
   rw [← E.out.1] at this
   exact gives_sl this
 refine walkM_callD (fun y' => MP.eq (.agg #[.bool (encI (ival x * ival y)).neg,y' 9])) (by intro y y' h; simp [deps,depOf] at h; simp [h]) ?_ ?_
 ·intro yq zq wq hC hd
  obtain ⟨hcq,hfq⟩ := bcell hC
  simp at hd
  refine ⟨by go_simp; done, ?_⟩
  apply Exists.intro
  apply Exists.intro
  constructor
  ·go_simp
   exact ⟨rfl,rfl⟩
  ·obtain ⟨_,⟨A,n,c,e,hs⟩, _⟩ := hd
   rw [e]
   have C := impl_signed (!(x.neg == y.neg)) A n c wq
   rw [show ((!(x.neg == y.neg)) && decide (0 < n)) = (encI (ival x * ival y)).neg by rw [E.out.2, ← E.out.1,hs.1]; rfl] at C
   exact gives_eq C
 intro yq zq wa hC hd hdis0
 have hdis := hid hdis0
 clear hdis0
 simp at hd
 go_simp
 have q9 := hd.2.2.2.2.2.2.2.2.2.1
 have q10 := hd.2.2.2.2.2.2.2.2.2.2
 obtain ⟨⟨⟨A,n,c,e9,hs⟩,hf⟩,hr⟩ := q9
 have e10 := q10.1.1
 have HS := hid hs; have HF := hid hf; have HR := hid hr
 clear hd hdis q10 hs hf hr
 obtain ⟨hc_wa,hf_wa⟩ := bcell hC
 have hz0_wa : w.heap.size < wa.heap.size := by have := hC.size; (try simp at this); omega
 have hz1_wa : w.heap.size + 1 < wa.heap.size := by have := hC.size; (try simp at this); omega
 have hz2_wa : w.heap.size + 1 + 1 < wa.heap.size := by have := hC.size; (try simp at this); omega
 go_wp2
 refine bodyPost_ret (v := .agg #[.bool (encI (ival x * ival y)).neg, .slice A n c]) (by simp [results,Tryz.results57,go_sem, *]) rfl ?_
 have f := fun (W : World) (ha : Above (w.heap.size + 3) wa W) => fin_own (w := w) HS.out HF.out (fun b hb => (HR.out b hb).1) (by omega) ha
 exact big_fin (f _ Above.go) Below.go

theorem _root_.Go.XN.add_same {x y : TBigInt} (hx : Lims x.mag) (hy : Lims y.mag) (h : x.neg = y.neg) : ival x + ival y = if x.neg then -((val x.mag + val y.mag).toNat : Int) else (val x.mag + val y.mag).toNat := by
 have h1 := val_nonneg hx; have h2 := val_nonneg hy
 unfold ival
 rw [← h]
 cases x.neg <;> simp <;> omega
theorem _root_.Go.XN.add_ge {x y : TBigInt} (h : ¬ x.neg = y.neg) (hle : val y.mag ≤ val x.mag) : ival x + ival y = if x.neg then -((val x.mag - val y.mag).toNat : Int) else (val x.mag - val y.mag).toNat := by
 unfold ival
 cases hx : x.neg <;> cases hy : y.neg <;> simp_all <;> omega
theorem _root_.Go.XN.add_lt {x y : TBigInt} (h : ¬ x.neg = y.neg) (hle : val x.mag ≤ val y.mag) : ival x + ival y = if y.neg then -((val y.mag - val x.mag).toNat : Int) else (val y.mag - val x.mag).toNat := by
 unfold ival
 cases hx : x.neg <;> cases hy : y.neg <;> simp_all <;> omega

set_option maxHeartbeats 2000000 in
theorem impl_bigAdd (v1 v2 : Value) (x y : TBigInt) (b1 b2 : List Nat) (w : World) (hx : Agg w v1 x b1) (hy : Agg w v2 y b2) (cx : XN.Can x.mag) (cy : XN.Can y.mag) (lx : x.mag.length ≤ 1048576) (ly : y.mag.length ≤ 1048576) :
  Calls Tryz.prog 142 #[v1,v2] w (GivesAgg w (encI (ival x + ival y))) := by
 obtain ⟨A1,n1,c1,s1,rfl,rfl,hs1⟩ := TBigInt.agg hx
 obtain ⟨A2,n2,c2,s2,rfl,rfl,hs2⟩ := TBigInt.agg hy
 have H1 := hid hs1; have H2 := hid hs2
 have CX := hid cx; have CY := hid cy; have LX := hid lx; have LY := hid ly
 clear hs1 hs2 hx hy cx cy lx ly
 by_cases hn : x.neg = y.neg
 ·have E := hid (enc_of (add_same CX.out.1 CY.out.1 hn))
  have hb : (x.neg == y.neg) = true := by simp [hn]
  have HN := hid hn
  clear hn
  go_enter Tryz.func142,Tryz.ntmps142
  go_wp2_with fail
  refine wp_region_last (by simp) (by kernel_rfl) (by kernel_rfl) (by kernel_rfl) (by kernel_rfl) ?_
  dsimp only [List.dropLast,List.getLast,List.length]
  iterate 6
   apply walkM_eq
   case h =>
    intro yq zq wq hC hd
    obtain ⟨hcq,hfq⟩ := bcell hC
    simp at hd
    refine ⟨by go_simp; done, ?_⟩
    go_simp
    first | (go_ints; exact rfl) | (go_ints; rw [if_pos (by omega)]; try exact rfl) | exact rfl | (rw [if_pos (by omega)]; try exact rfl)
  refine walkM_call (MP.sl (encI (ival x + ival y)).mag) ?_ ?_
  ·intro yq zq wq hC hd
   obtain ⟨hcq,hfq⟩ := bcell hC
   simp at hd
   refine ⟨by go_simp; done, ?_⟩
   apply Exists.intro
   apply Exists.intro
   constructor
   ·go_simp
    exact ⟨rfl,rfl⟩
   ·have := impl_natAdd A1 A2 n1 n2 c1 c2 x.mag y.mag _ _ wq (Sl.below H1.out Below.go) (Sl.below H2.out Below.go) CX.out CY.out (by rw [← H1.out.1]; exact LX.out) (by rw [← H2.out.1]; exact LY.out)
    rw [← E.out.1] at this
    exact gives_sl this
  refine walkM_callD (fun y' => MP.eq (.agg #[.bool (encI (ival x + ival y)).neg,y' 6])) (by intro y y' h; simp [deps,depOf] at h; simp [h]) ?_ ?_
  ·intro yq zq wq hC hd
   obtain ⟨hcq,hfq⟩ := bcell hC
   simp at hd
   refine ⟨by go_simp; done, ?_⟩
   apply Exists.intro
   apply Exists.intro
   constructor
   ·go_simp
    exact ⟨rfl,rfl⟩
   ·obtain ⟨_,⟨A,n,c,e,hs⟩, _⟩ := hd
    rw [e]
    have C := impl_signed x.neg A n c wq
    rw [show (x.neg && decide (0 < n)) = (encI (ival x + ival y)).neg by rw [E.out.2, ← E.out.1,hs.1]] at C
    exact gives_eq C
  intro yq zq wa hC hd hdis0
  have hdis := hid hdis0
  clear hdis0
  simp at hd
  go_simp
  have q6 := hd.2.2.2.2.2.2.1
  have q7 := hd.2.2.2.2.2.2.2
  obtain ⟨⟨⟨A,n,c,e6,hs⟩,hf⟩,hr⟩ := q6
  have e7 := q7.1.1
  have HS := hid hs; have HF := hid hf; have HR := hid hr
  clear hd hdis q7 hs hf hr
  obtain ⟨hc_wa,hf_wa⟩ := bcell hC
  have hz0_wa : w.heap.size < wa.heap.size := by have := hC.size; (try simp at this); omega
  have hz1_wa : w.heap.size + 1 < wa.heap.size := by have := hC.size; (try simp at this); omega
  have hz2_wa : w.heap.size + 1 + 1 < wa.heap.size := by have := hC.size; (try simp at this); omega
  go_wp2
  refine bodyPost_ret (v := .agg #[.bool (encI (ival x + ival y)).neg, .slice A n c]) (by simp [results,Tryz.results142,go_sem, *]) rfl ?_
  have f := fun (W : World) (ha : Above (w.heap.size + 3) wa W) => fin_own (w := w) HS.out HF.out (fun b hb => by have := (HR.out b hb).1; omega) (by omega) ha
  exact big_fin (f _ Above.go) Below.go
 ·have hb : (x.neg == y.neg) = false := by simp [hn]
  rcases Int.lt_or_le (val x.mag) (val y.mag) with hc | hc
  ·have E := hid (enc_of (add_lt hn (Int.le_of_lt hc)))
   have S := hid (sgn_lt hc)
   have HC := hid hc
   clear hn hc
   go_enter Tryz.func142,Tryz.ntmps142
   go_wp2_with fail
   refine (impl_natCmp A1 A2 n1 n2 c1 c2 x.mag y.mag _ _ _ (Sl.below H1.out Below.go) (Sl.below H2.out Below.go) CX.out CY.out).mono ?_
   rintro _ w1 ⟨rfl,hb1⟩
   rw [S.out]
   obtain ⟨hc_w1,hf_w1⟩ := bcell hb1
   have hz0_w1 : w.heap.size < w1.heap.size := by have := hb1.size; (try simp at this); omega
   have hz1_w1 : w.heap.size + 1 < w1.heap.size := by have := hb1.size; (try simp at this); omega
   have hz2_w1 : w.heap.size + 1 + 1 < w1.heap.size := by have := hb1.size; (try simp at this); omega
   go_wp2_with fail
   refine wp_region_last (by simp) (by kernel_rfl) (by kernel_rfl) (by kernel_rfl) (by kernel_rfl) ?_
   dsimp only [List.dropLast,List.getLast,List.length]
   iterate 6
    apply walkM_eq
    case h =>
     intro yq zq wq hC hd
     obtain ⟨hcq,hfq⟩ := bcell hC
     simp at hd
     refine ⟨by go_simp; done, ?_⟩
     go_simp
     first | (go_ints; exact rfl) | (go_ints; rw [if_pos (by omega)]; try exact rfl) | exact rfl | (rw [if_pos (by omega)]; try exact rfl)
   refine walkM_call (MP.sl (encI (ival x + ival y)).mag) ?_ ?_
   ·intro yq zq wq hC hd
    obtain ⟨hcq,hfq⟩ := bcell hC
    simp at hd
    refine ⟨by go_simp; done, ?_⟩
    apply Exists.intro
    apply Exists.intro
    constructor
    ·go_simp
     exact ⟨rfl,rfl⟩
    ·have := impl_natSub A2 A1 n2 n1 c2 c1 y.mag x.mag _ _ wq (Sl.below H2.out Below.go) (Sl.below H1.out Below.go) CY.out CX.out (by rw [← H2.out.1]; exact LY.out) (Int.le_of_lt HC.out)
     rw [← E.out.1] at this
     exact gives_sl this
   refine walkM_callD (fun y' => MP.eq (.agg #[.bool (encI (ival x + ival y)).neg,y' 6])) (by intro y y' h; simp [deps,depOf] at h; simp [h]) ?_ ?_
   ·intro yq zq wq hC hd
    obtain ⟨hcq,hfq⟩ := bcell hC
    simp at hd
    refine ⟨by go_simp; done, ?_⟩
    apply Exists.intro
    apply Exists.intro
    constructor
    ·go_simp
     exact ⟨rfl,rfl⟩
    ·obtain ⟨_,⟨A,n,c,e,hs⟩, _⟩ := hd
     rw [e]
     have C := impl_signed y.neg A n c wq
     rw [show (y.neg && decide (0 < n)) = (encI (ival x + ival y)).neg by rw [E.out.2, ← E.out.1,hs.1]] at C
     exact gives_eq C
   intro yq zq wa hC hd hdis0
   have hdis := hid hdis0
   clear hdis0
   simp at hd
   go_simp
   have q6 := hd.2.2.2.2.2.2.1
   have q7 := hd.2.2.2.2.2.2.2
   obtain ⟨⟨⟨A,n,c,e6,hs⟩,hf⟩,hr⟩ := q6
   have e7 := q7.1.1
   have HS := hid hs; have HF := hid hf; have HR := hid hr
   clear hd hdis q7 hs hf hr
   obtain ⟨hc_wa,hf_wa⟩ := bcell hC
   have hz0_wa : w.heap.size < wa.heap.size := by have := hC.size; (try simp at this); omega
   have hz1_wa : w.heap.size + 1 < wa.heap.size := by have := hC.size; (try simp at this); omega
   have hz2_wa : w.heap.size + 1 + 1 < wa.heap.size := by have := hC.size; (try simp at this); omega
   go_wp2
   refine bodyPost_ret (v := .agg #[.bool (encI (ival x + ival y)).neg, .slice A n c]) (by simp [results,Tryz.results142,go_sem, *]) rfl ?_
   have f := fun (W : World) (ha : Above (w.heap.size + 3) wa W) => fin_own (w := w) HS.out HF.out (fun b hb => by have := (HR.out b hb).1; omega) (by omega) ha
   exact big_fin (f _ Above.go) Below.go
  ·have E := hid (enc_of (add_ge hn hc))
   have S := sgn_nonneg hc
   have HC := hid hc
   clear hn hc
   go_enter Tryz.func142,Tryz.ntmps142
   go_wp2_with fail
   refine (impl_natCmp A1 A2 n1 n2 c1 c2 x.mag y.mag _ _ _ (Sl.below H1.out Below.go) (Sl.below H2.out Below.go) CX.out CY.out).mono ?_
   rintro _ w1 ⟨rfl,hb1⟩
   generalize sgn (val x.mag - val y.mag) = sg at *
   obtain ⟨hc_w1,hf_w1⟩ := bcell hb1
   have hz0_w1 : w.heap.size < w1.heap.size := by have := hb1.size; (try simp at this); omega
   have hz1_w1 : w.heap.size + 1 < w1.heap.size := by have := hb1.size; (try simp at this); omega
   have hz2_w1 : w.heap.size + 1 + 1 < w1.heap.size := by have := hb1.size; (try simp at this); omega
   go_wp2_with fail
   refine wp_region_last (by simp) (by kernel_rfl) (by kernel_rfl) (by kernel_rfl) (by kernel_rfl) ?_
   dsimp only [List.dropLast,List.getLast,List.length]
   iterate 6
    apply walkM_eq
    case h =>
     intro yq zq wq hC hd
     obtain ⟨hcq,hfq⟩ := bcell hC
     simp at hd
     refine ⟨by go_simp; done, ?_⟩
     go_simp
     first | (go_ints; exact rfl) | (go_ints; rw [if_pos (by omega)]; try exact rfl) | exact rfl | (rw [if_pos (by omega)]; try exact rfl)
   refine walkM_call (MP.sl (encI (ival x + ival y)).mag) ?_ ?_
   ·intro yq zq wq hC hd
    obtain ⟨hcq,hfq⟩ := bcell hC
    simp at hd
    refine ⟨by go_simp; done, ?_⟩
    apply Exists.intro
    apply Exists.intro
    constructor
    ·go_simp
     exact ⟨rfl,rfl⟩
    ·have := impl_natSub A1 A2 n1 n2 c1 c2 x.mag y.mag _ _ wq (Sl.below H1.out Below.go) (Sl.below H2.out Below.go) CX.out CY.out (by rw [← H1.out.1]; exact LX.out) HC.out
     rw [← E.out.1] at this
     exact gives_sl this
   refine walkM_callD (fun y' => MP.eq (.agg #[.bool (encI (ival x + ival y)).neg,y' 6])) (by intro y y' h; simp [deps,depOf] at h; simp [h]) ?_ ?_
   ·intro yq zq wq hC hd
    obtain ⟨hcq,hfq⟩ := bcell hC
    simp at hd
    refine ⟨by go_simp; done, ?_⟩
    apply Exists.intro
    apply Exists.intro
    constructor
    ·go_simp
     exact ⟨rfl,rfl⟩
    ·obtain ⟨_,⟨A,n,c,e,hs⟩, _⟩ := hd
     rw [e]
     have C := impl_signed x.neg A n c wq
     rw [show (x.neg && decide (0 < n)) = (encI (ival x + ival y)).neg by rw [E.out.2, ← E.out.1,hs.1]] at C
     exact gives_eq C
   intro yq zq wa hC hd hdis0
   have hdis := hid hdis0
   clear hdis0
   simp at hd
   go_simp
   have q6 := hd.2.2.2.2.2.2.1
   have q7 := hd.2.2.2.2.2.2.2
   obtain ⟨⟨⟨A,n,c,e6,hs⟩,hf⟩,hr⟩ := q6
   have e7 := q7.1.1
   have HS := hid hs; have HF := hid hf; have HR := hid hr
   clear hd hdis q7 hs hf hr
   obtain ⟨hc_wa,hf_wa⟩ := bcell hC
   have hz0_wa : w.heap.size < wa.heap.size := by have := hC.size; (try simp at this); omega
   have hz1_wa : w.heap.size + 1 < wa.heap.size := by have := hC.size; (try simp at this); omega
   have hz2_wa : w.heap.size + 1 + 1 < wa.heap.size := by have := hC.size; (try simp at this); omega
   go_wp2
   refine bodyPost_ret (v := .agg #[.bool (encI (ival x + ival y)).neg, .slice A n c]) (by simp [results,Tryz.results142,go_sem, *]) rfl ?_
   have f := fun (W : World) (ha : Above (w.heap.size + 3) wa W) => fin_own (w := w) HS.out HF.out (fun b hb => by have := (HR.out b hb).1; omega) (by omega) ha
   exact big_fin (f _ Above.go) Below.go

def NegOk (x : TBigInt) : Prop := x.neg = true → x.mag ≠ []
theorem NegOk.lt {x : TBigInt} (h : NegOk x) (hc : XN.Can x.mag) (hn : x.neg = true) : ival x < 0 := by
 have := hc.pos (h hn)
 unfold ival; rw [if_pos hn]; omega
theorem sgn_neg1 {a : Int} (h : a < 0) : sgn a = -1 := by unfold sgn; rw [if_pos h]
theorem sgn_pos1 {a : Int} (h : 0 < a) : sgn a = 1 := by unfold sgn; rw [if_neg (by omega),if_pos h]
theorem sgn_zero {a : Int} (h : a = 0) : sgn a = 0 := by subst h; rfl

set_option maxHeartbeats 400000 in
theorem impl_signOf (n : Int) (w : World) : Calls Tryz.prog 170 #[.int .i64 n] w (Gives w (.int .i64 (sgn n))) := by
 rcases Int.lt_trichotomy n 0 with h | h | h
 ·have E := hid (sgn_neg1 h)
  go_enter Tryz.func170,Tryz.ntmps170
  go_wp2
  go_ret
  exact ⟨ret_int E.out.symm,Below.go⟩
 ·subst h
  go_enter Tryz.func170,Tryz.ntmps170
  go_wp2
  go_ret
  exact ⟨rfl,Below.go⟩
 ·have E := hid (sgn_pos1 h)
  have h' : ¬ n < 0 := by omega
  go_enter Tryz.func170,Tryz.ntmps170
  go_wp2
  go_ret
  exact ⟨ret_int E.out.symm,Below.go⟩

def inB (lo n hi : Int) : Bool := decide (lo ≤ n) && decide (n ≤ hi)

set_option maxHeartbeats 400000 in
theorem impl_within (n lo hi : Int) (w : World) : Calls Tryz.prog 36 #[.int .i64 n, .int .i64 lo, .int .i64 hi] w (Gives w (.bool (inB lo n hi))) := by
 rcases Int.lt_or_le n lo with h | h
 ·have E := hid (show false = inB lo n hi by unfold inB; simp; omega)
  have h' : ¬ (lo ≤ n) := by omega
  go_enter Tryz.func36,Tryz.ntmps36
  go_wp2
  go_ret
  exact ⟨ret_bool E.out,Below.go⟩
 ·have E := hid (show decide (n ≤ hi) = inB lo n hi by unfold inB; simp [h])
  go_enter Tryz.func36,Tryz.ntmps36
  go_wp2
  go_ret
  exact ⟨ret_bool E.out,Below.go⟩

set_option maxHeartbeats 1000000 in
theorem impl_sign (v : Value) (x : TRat) (b : List Nat) (w : World) (hx : Agg w v x b) (cx : XN.Can x.num.mag) (nx : NegOk x.num) :
  Calls Tryz.prog 46 #[v] w (Gives w (.int .i64 (rsignV x))) := by
 obtain ⟨A1,n1,c1,s1,A2,n2,c2,s2,rfl,rfl,hs1,hs2⟩ := TRat.agg hx
 have L1 := hid hs1.1
 clear hs1 hs2 hx
 rcases Nat.eq_zero_or_pos n1 with h0 | h0
 ·subst h0
  have E := hid (sgn_zero (a := ival x.num) (by
   have := List.eq_nil_of_length_eq_zero L1.out
   unfold ival; rw [this]; simp [val]))
  clear cx nx
  go_enter Tryz.func46,Tryz.ntmps46
  go_wp2
  go_ret
  exact ⟨ret_int E.out.symm,Below.go⟩
 ·have hz : ((n1 : Int) == 0) = false := by simp; omega
  cases hn : x.num.neg
  ·have E := hid (sgn_pos1 (a := ival x.num) (by
    have := cx.pos (by intro e; have := L1.out; rw [e] at this; simp at this; omega)
    unfold ival; rw [if_neg (by simp [hn])]; exact this))
   clear cx nx hn
   go_enter Tryz.func46,Tryz.ntmps46
   go_wp2
   go_ret
   exact ⟨ret_int E.out.symm,Below.go⟩
  ·have E := hid (sgn_neg1 (nx.lt cx hn))
   clear cx nx hn
   go_enter Tryz.func46,Tryz.ntmps46
   go_wp2
   go_ret
   exact ⟨ret_int E.out.symm,Below.go⟩

def smallB (x : TRat) : Bool := decide (x.num.mag.length ≤ 1) && decide (x.den.length = 1)

set_option maxHeartbeats 1000000 in
theorem impl_isSmall (v : Value) (x : TRat) (b : List Nat) (w : World) (hx : Agg w v x b) :
  Calls Tryz.prog 53 #[v] w (Gives w (.bool (smallB x))) := by
 obtain ⟨A1,n1,c1,s1,A2,n2,c2,s2,rfl,rfl,hs1,hs2⟩ := TRat.agg hx
 have L1 := hid hs1.1; have L2 := hid hs2.1
 clear hs1 hs2 hx
 rcases Nat.lt_or_ge 1 n1 with h0 | h0
 ·have E := hid (show false = smallB x by unfold smallB; rw [L1.out]; simp; omega)
  have hz : ¬ ((n1 : Int) ≤ 1) := by omega
  go_enter Tryz.func53,Tryz.ntmps53
  go_wp2
  go_ret
  exact ⟨ret_bool E.out,Below.go⟩
 ·have E := hid (show ((n2 : Int) == 1) = smallB x by
   unfold smallB; rw [L1.out,L2.out,decide_eq_true h0,Bool.true_and,Bool.eq_iff_iff]; simp; omega)
  have hz : (n1 : Int) ≤ 1 := by omega
  go_enter Tryz.func53,Tryz.ntmps53
  go_wp2
  go_ret
  exact ⟨ret_bool E.out,Below.go⟩

def GivesInts (w : World) (a b : Int) (e : Ending) (w' : World) : Prop := e = .returned (.tuple #[.int .i64 a, .int .i64 b]) ∧ Below w.heap.size w w'

theorem small_den {x : TRat} {d : Int} (h : x.den = [d]) : denv x = d := by unfold denv; rw [h]; simp [val]
theorem small_num0 {x : TRat} (h : x.num.mag = []) : numv x = 0 := by unfold numv ival; rw [h]; simp [val]
theorem small_num1 {x : TRat} {a : Int} (h : x.num.mag = [a]) : numv x = if x.num.neg then -a else a := by unfold numv ival; rw [h]; simp [val]

set_option maxHeartbeats 1000000 in
theorem impl_small (v : Value) (x : TRat) (b : List Nat) (w : World) (hx : Agg w v x b) (hs : smallB x = true) (hl : Lims x.num.mag) (hn : NegOk x.num) :
  Calls Tryz.prog 54 #[v] w (GivesInts w (numv x) (denv x)) := by
 obtain ⟨A1,n1,c1,s1,A2,n2,c2,s2,rfl,rfl,hs1,hs2⟩ := TRat.agg hx
 have L1 := hid hs1.1; have L2 := hid hs2.1
 unfold smallB at hs
 rw [hs1.1,hs2.1] at hs
 simp only [Bool.and_eq_true,decide_eq_true_eq] at hs
 obtain ⟨h1,rfl⟩ := hs
 obtain ⟨bd,od,d,rfl,hbd,hd1,hdI,hdc⟩ := Sl.getInt hs2 (show 0 < 1 by decide)
 have D := hid (small_den (x := x) (d := d) (by
  match x.den,hs2.1,hd1 with
  | [y], _,h => simp at h; rw [h]))
 simp only [Nat.add_zero] at hdc
 rcases Nat.eq_zero_or_pos n1 with h0 | h0
 ·subst h0
  have hm : x.num.mag = [] := List.eq_nil_of_length_eq_zero L1.out
  have E := hid (small_num0 (x := x) hm)
  have hng : x.num.neg = false := by
   cases h : x.num.neg
   ·rfl
   ·exact absurd hm (hn h)
  clear hs1 hs2 hx hd1 hl hn hm h1
  go_enter Tryz.func54,Tryz.ntmps54
  go_wp2_with fail
  refine wp_region_walk (by kernel_rfl) (by kernel_rfl) (by kernel_rfl) ?_
  iterate 7
   apply walkM_eq
   case h =>
    intro yq zq wq hC hd
    obtain ⟨hcq,hfq⟩ := bcell hC
    simp at hd
    refine ⟨by go_simp; done, ?_⟩
    go_simp
    first | (go_ints; exact rfl) | (go_ints; rw [if_pos (by omega)]; try exact rfl) | exact rfl | (rw [if_pos (by omega)]; try exact rfl)
  intro yq zq wa hC hd hdis0
  have hdis := hid hdis0
  clear hdis0
  simp at hd
  go_simp
  clear hd hdis
  go_wp2
  go_ret2
  refine ⟨?_,Below.go⟩
  rw [E.out,D.out]
  rfl
 ·obtain rfl : n1 = 1 := by omega
  obtain ⟨bn,on,a,rfl,hbn,hn1,hnI,hnc⟩ := Sl.getInt hs1 (show 0 < 1 by decide)
  have hm : x.num.mag = [a] := by
   match x.num.mag,hs1.1,hn1 with
   | [y], _,h => simp at h; rw [h]
  have E := hid (small_num1 (x := x) (a := a) hm)
  have hal := hl a (by rw [hm]; simp)
  obtain ⟨ha0,ha1⟩ := hal
  simp only [Nat.add_zero] at hnc
  cases hng : x.num.neg
  all_goals
   rw [hng] at E
   clear hs1 hs2 hx hd1 hl hn hm h1 hn1
   go_enter Tryz.func54,Tryz.ntmps54
   go_wp2_with fail
   refine wp_region_walk (by kernel_rfl) (by kernel_rfl) (by kernel_rfl) ?_
   iterate 7
    apply walkM_eq
    case h =>
     intro yq zq wq hC hd
     obtain ⟨hcq,hfq⟩ := bcell hC
     simp at hd
     refine ⟨by go_simp; done, ?_⟩
     go_simp
     first | (go_ints; exact rfl) | (go_ints; rw [if_pos (by omega)]; try exact rfl) | exact rfl | (rw [if_pos (by omega)]; try exact rfl)
   intro yq zq wa hC hd hdis0
   have hdis := hid hdis0
   clear hdis0
   simp at hd
   go_simp
   clear hd hdis
   go_wp2
   go_ret2
   refine ⟨?_,Below.go⟩
   rw [E.out,D.out]
   rfl

def GivesIdx (w : World) (b : Bool) (e : Ending) (w' : World) : Prop := ∃ r : Int,e = .returned (.int .i64 r) ∧ decide (0 ≤ r) = b ∧ Below w.heap.size w w'

def natBad (x : Int) : Bool := !inB 0 x 999999999

set_option maxHeartbeats 400000 in
theorem impl_NatOk_1 (x : Int) (w : World) : Calls Tryz.prog 136 #[.int .i64 x] w (Gives w (.bool (natBad x))) := by
 go_enter Tryz.func136,Tryz.ntmps136
 go_wp2_with fail
 refine (impl_within x 0 999999999 w).mono ?_
 rintro _ w1 ⟨rfl,hb1⟩
 go_wp2
 go_ret
 exact ⟨rfl,hb1⟩

theorem any_at {α : Type} {xs : List α} {p : α → Bool} {k : Nat} {x : α} (h : xs[k]? = some x) (hp : p x = true) : xs.any p = true :=
 List.any_eq_true.2 ⟨x,List.mem_of_getElem? h,hp⟩
theorem any_step {α : Type} {xs : List α} {p : α → Bool} {k : Nat} {x : α} (h : xs[k]? = some x) (h0 : (xs.take k).any p = false) (hp : p x = false) : (xs.take (k + 1)).any p = false := by
 rw [take_step h,List.any_append,h0]; simp [hp]

def Known (f : Nat) : Prop := ∀ (a : Array Value) (w : World),Sem.run Tryz.prog (callFunc f a) w = .ok (.enter f a) w
theorem known_NatOk_1 : Known 136 := fun a w => by kernel_rfl

set_option maxRecDepth 10000 in
set_option maxHeartbeats 1000000 in
theorem index_ints (f : Nat) (hf : Known f) (A : Option Addr) (n c : Nat) (xs : List Int) (bs : List Nat) (w : World) (p : Int → Bool) (hx : Sl w A n c xs bs)
  (hp : ∀ (x : Int) (w : World),Calls Tryz.prog f #[.int .i64 x] w (Gives w (.bool (p x)))) :
  Calls Tryz.prog 174 #[.slice A n c, .func (.func f) #[] #[]] w (GivesIdx w (xs.any p)) := by
 have HL := hid hx.1
 have HX := hid hx
 have HP := hid hp
 unfold Known at hf
 have hm : n ≤ maxLen := Nat.le_trans hx.2.1 hx.2.2.1
 unfold maxLen at hm
 clear hx hp
 go_enter Tryz.func174,Tryz.ntmps174
 go_wp2_with fail
 go_loopg [8] n (fun g s8 wr => ∃ k : Nat,k + g = n ∧ s8 = .int .i64 k ∧ Hid ((xs.take k).any p = false) ∧ Below w.heap.size w wr)
 case atStart => exact ⟨0,by omega,rfl,by show (xs.take 0).any p = false; simp,Below.refl _ _⟩
 case round =>
  obtain ⟨k,hk,rfl,ha,hb⟩ := hrel
  rcases Nat.lt_or_ge k n with hkn | hkn
  ·obtain ⟨b,off,x,rfl,hbl,hx1,hI,hc⟩ := Sl.getInt (Sl.below HX.out hb) hkn
   have HX1 := hid hx1
   have hki : (k : Int) < n := by omega
   obtain ⟨g,rfl⟩ : ∃ g,gk = g + 1 := ⟨gk - 1,by omega⟩
   have hk' := hid (show k + 1 + g = n by omega)
   clear hx1 hk hkn
   have hkj : k + 1 ≤ n := by have := hk'.out; omega
   go_wp2_with fail
   refine (HP.out x wr).mono ?_
   rintro _ w1 ⟨rfl,hb1⟩
   have hb2 := Below.next hb hb1
   cases hpx : p x
   ·have r1 := hid (any_step HX1.out ha.out hpx)
    clear hpx
    go_wp2_with fail
    go_roundg g
    case measure => omega
    case rel => exact ⟨k + 1,hk'.out,by go_num,r1,hb2⟩
   ·have r1 := hid (any_at HX1.out hpx)
    clear hpx
    go_wp2
    go_ret
    exact ⟨k,rfl,by rw [r1.out]; simp,hb2⟩
  ·have e := hid (show xs.any p = false by
    have := ha.out
    rwa [List.take_of_length_le (by rw [HL.out]; omega)] at this)
   have hki : ¬ ((k : Int) < n) := by omega
   clear hk hkn
   go_wp2
   go_ret
   exact ⟨-1,rfl,by rw [e.out]; rfl,hb⟩

set_option maxHeartbeats 400000 in
theorem contains_ints (f : Nat) (hf : Known f) (A : Option Addr) (n c : Nat) (xs : List Int) (bs : List Nat) (w : World) (p : Int → Bool) (hx : Sl w A n c xs bs)
  (hp : ∀ (x : Int) (w : World),Calls Tryz.prog f #[.int .i64 x] w (Gives w (.bool (p x)))) :
  Calls Tryz.prog 135 #[.slice A n c, .func (.func f) #[] #[]] w (Gives w (.bool (xs.any p))) := by
 have HX := hid hx
 have HP := hid hp
 have HF := hid hf
 clear hx hp hf
 go_enter Tryz.func135,Tryz.ntmps135
 go_wp2_with fail
 refine (index_ints f HF.out A n c xs bs _ p (Sl.below HX.out Below.go) HP.out).mono ?_
 rintro _ w1 ⟨r,rfl,e,hb1⟩
 have E := hid e
 clear e
 go_wp2
 go_ret
 exact ⟨ret_bool E.out,hb1⟩

theorem natOk_parts (xs : List Int) : natOkB xs = (decide (xs.length ≤ 60) && (decide (xs.getLast? ≠ some 0) && !xs.any natBad)) := by
 unfold natOkB
 rw [Bool.and_comm (xs.all _)]
 congr 1; congr 1
 rw [List.not_any_eq_all_not]
 congr 1
 funext x
 unfold natBad inB
 rw [Bool.not_not,Bool.eq_iff_iff]; simp; omega

set_option maxHeartbeats 1000000 in
theorem impl_NatOk (A : Option Addr) (n c : Nat) (xs : List Int) (bs : List Nat) (w : World) (hx : Sl w A n c xs bs) :
  Calls Tryz.prog 96 #[.slice A n c] w (Gives w (.bool (natOkB xs))) := by
 have HL := hid hx.1
 have HX := hid hx
 have hm : n ≤ maxLen := Nat.le_trans hx.2.1 hx.2.2.1
 unfold maxLen at hm
 rcases Nat.lt_or_ge 60 n with h60 | h60
 ·have e := hid (show false = natOkB xs by rw [natOk_parts,HL.out]; simp; omega)
  have h1 : ¬ ((n : Int) ≤ 60) := by omega
  clear hx
  go_enter Tryz.func96,Tryz.ntmps96
  go_wp2
  go_ret
  exact ⟨ret_bool e.out,Below.go⟩
 ·have h1 : (n : Int) ≤ 60 := by omega
  rcases Nat.eq_zero_or_pos n with h0 | h0
  ·subst h0
   have e := hid (show (!xs.any natBad) = natOkB xs by rw [natOk_parts,List.eq_nil_of_length_eq_zero HL.out]; rfl)
   clear hx
   go_enter Tryz.func96,Tryz.ntmps96
   go_wp2_with fail
   refine (contains_ints 136 known_NatOk_1 A 0 c xs bs _ natBad (Sl.below HX.out Below.go) impl_NatOk_1).mono ?_
   rintro _ w1 ⟨rfl,hb1⟩
   go_wp2
   go_ret
   exact ⟨ret_bool e.out,hb1⟩
  ·obtain ⟨k,rfl⟩ : ∃ k,n = k + 1 := ⟨n - 1,by omega⟩
   obtain ⟨b,off,x,rfl,hbl,hx1,hI,hc⟩ := Sl.getInt hx (show k < k + 1 by omega)
   have hlast := hid (show xs.getLast? = some x by rw [List.getLast?_eq_getElem?,HL.out]; exact hx1)
   have hz : ((k : Int) + 1 == 0) = false := by simp; omega
   by_cases hx0 : x = 0
   ·have e := hid (show false = natOkB xs by rw [natOk_parts,hlast.out,hx0]; simp)
    have hb : (x != 0) = false := by simp [hx0]
    clear hx hx1 hx0
    go_enter Tryz.func96,Tryz.ntmps96
    go_wp2
    go_ret
    exact ⟨ret_bool e.out,Below.go⟩
   ·have e := hid (show (!xs.any natBad) = natOkB xs by rw [natOk_parts,hlast.out,HL.out,decide_eq_true h60]; simp [hx0])
    have hb : (x != 0) = true := by simp [hx0]
    clear hx hx1 hx0
    go_enter Tryz.func96,Tryz.ntmps96
    go_wp2_with fail
    refine (contains_ints 136 known_NatOk_1 _ (k + 1) c xs bs _ natBad (Sl.below HX.out Below.go) impl_NatOk_1).mono ?_
    rintro _ w1 ⟨rfl,hb1⟩
    go_wp2
    go_ret
    exact ⟨ret_bool e.out,hb1⟩

set_option maxHeartbeats 1000000 in
theorem impl_BigIntOk (v : Value) (x : TBigInt) (bs : List Nat) (w : World) (hx : Agg w v x bs) :
  Calls Tryz.prog 95 #[v] w (Gives w (.bool (bigOkB x))) := by
 obtain ⟨A1,n1,c1,s1,rfl,rfl,hs1⟩ := TBigInt.agg hx
 have H1 := hid hs1
 clear hs1 hx
 have E := hid (show bigOkB x = (natOkB x.mag && (!x.neg || decide (0 < n1))) by
  unfold bigOkB
  congr 1; congr 1
  rw [← H1.out.1]
  cases x.mag <;> simp)
 cases hn : natOkB x.mag
 ·go_enter Tryz.func95,Tryz.ntmps95
  go_wp2_with fail
  have C := impl_NatOk A1 n1 c1 x.mag bs (w.alloc (.cells #[.bool x.neg, .slice A1 n1 c1] 30)) (Sl.below H1.out Below.go)
  rw [hn] at C
  refine C.mono ?_
  clear C
  rintro _ w1 ⟨rfl,hb1⟩
  obtain ⟨hc_w1,hf_w1⟩ := bcell hb1
  have hz0_w1 : w.heap.size < w1.heap.size := by have := hb1.size; (try simp at this); omega
  go_wp2
  go_ret
  exact ⟨ret_bool (by rw [E.out,hn]; rfl),Below.go⟩
 ·have HN := hid hn
  clear hn
  rw [HN.out,Bool.true_and] at E
  cases hg : x.neg
  ·have E2 := hid (show true = bigOkB x by rw [E.out,hg]; rfl)
   clear E
   go_enter Tryz.func95,Tryz.ntmps95
   go_wp2_with fail
   have C := impl_NatOk A1 n1 c1 x.mag bs (w.alloc (.cells #[.bool false, .slice A1 n1 c1] 30)) (Sl.below H1.out Below.go)
   rw [HN.out] at C
   refine C.mono ?_
   clear C
   rintro _ w1 ⟨rfl,hb1⟩
   obtain ⟨hc_w1,hf_w1⟩ := bcell hb1
   have hz0_w1 : w.heap.size < w1.heap.size := by have := hb1.size; (try simp at this); omega
   go_wp2
   go_ret
   exact ⟨ret_bool E2.out,Below.go⟩
  ·have E2 := hid (show decide (0 < n1) = bigOkB x by rw [E.out,hg]; rfl)
   clear E
   go_enter Tryz.func95,Tryz.ntmps95
   go_wp2_with fail
   have C := impl_NatOk A1 n1 c1 x.mag bs (w.alloc (.cells #[.bool true, .slice A1 n1 c1] 30)) (Sl.below H1.out Below.go)
   rw [HN.out] at C
   refine C.mono ?_
   clear C
   rintro _ w1 ⟨rfl,hb1⟩
   obtain ⟨hc_w1,hf_w1⟩ := bcell hb1
   have hz0_w1 : w.heap.size < w1.heap.size := by have := hb1.size; (try simp at this); omega
   go_wp2
   go_ret
   exact ⟨ret_bool E2.out,Below.go⟩

theorem dig_one {N : Nat} : (dig N = [1]) ↔ N = 1 := by
 constructor
 ·intro h
  have := val_dig N
  rw [h] at this
  simp [val] at this
  omega
 ·rintro rfl; rfl
theorem ratOk_split {x : TRat} {b1 b2 : Bool} {n1 n2 : Nat} (h1 : bigOkB x.num = b1) (h2 : natOkB x.den = b2) (l1 : x.num.mag.length = n1) (l2 : x.den.length = n2) :
  ratOkB x = (b1 && (b2 && (decide (0 < n2) && (decide (n1 ≤ 24) && (decide (n2 ≤ 24) && decide (Int.gcd (val x.num.mag) (val x.den) = 1)))))) := by
 unfold ratOkB
 rw [h1,h2,l1,l2]
 congr 2; congr 1
 rw [← l2]
 cases x.den <;> simp
theorem gcd_num (x : TRat) : Int.gcd (numv x) (denv x) = Int.gcd (val x.num.mag) (val x.den) := by
 unfold numv denv ival; split <;> simp
theorem denv_small {x : TRat} (h : XN.Can x.den) (hl : x.den.length = 1) : 0 ≤ denv x ∧ denv x < 1000000000 := by
 unfold denv
 have := val_lt h.1; have := val_nonneg h.1
 rw [hl,pw_vals.1] at *
 omega
theorem numv_small {x : TRat} (h : Lims x.num.mag) (hl : x.num.mag.length ≤ 1) : -1000000000 < numv x ∧ numv x < 1000000000 := by
 have h1 := val_lt h; have h2 := val_nonneg h
 have h3 := pw_mono hl
 rw [pw_vals.1] at h3
 unfold numv ival
 split <;> omega
theorem negOk_of {x : TBigInt} (h : bigOkB x = true) : NegOk x := (bigOkB_iff.1 h).2

set_option maxHeartbeats 4000000 in
theorem impl_RatOk (v : Value) (x : TRat) (b : List Nat) (w : World) (hx : Agg w v x b) :
  Calls Tryz.prog 45 #[v] w (Gives w (.bool (ratOkB x))) := by
 have HX := hid hx
 obtain ⟨A1,n1,c1,s1,A2,n2,c2,s2,rfl,rfl,hs1,hs2⟩ := TRat.agg hx
 have H1 := hid hs1; have H2 := hid hs2
 clear hs1 hs2 hx
 cases hb1 : bigOkB x.num
 ·have E := hid (show false = ratOkB x by rw [ratOk_split hb1 rfl rfl rfl]; rfl)
  have HB1 := hid hb1
  clear hb1
  go_enter Tryz.func45,Tryz.ntmps45
  go_wp2_with fail
  have C := impl_BigIntOk _ x.num s1 (w.alloc (.cells #[.bool x.num.neg, .slice A1 n1 c1, .slice A2 n2 c2] 32)) (TBigInt.mkAgg (Sl.below H1.out Below.go))
  rw [HB1.out] at C
  refine C.mono ?_
  clear C
  rintro _ w1 ⟨rfl,hb1⟩
  obtain ⟨hc_w1,hf_w1⟩ := bcell hb1
  have hz0_w1 : w.heap.size < w1.heap.size := by have := hb1.size; (try simp at this); omega
  go_wp2
  go_ret
  exact ⟨ret_bool (E.out),Below.go⟩
 ·have HB1 := hid hb1
  cases hb2 : natOkB x.den
  ·have E := hid (show false = ratOkB x by rw [ratOk_split hb1 hb2 rfl rfl]; rfl)
   have HB2 := hid hb2
   clear hb1 hb2
   go_enter Tryz.func45,Tryz.ntmps45
   go_wp2_with fail
   have C := impl_BigIntOk _ x.num s1 (w.alloc (.cells #[.bool x.num.neg, .slice A1 n1 c1, .slice A2 n2 c2] 32)) (TBigInt.mkAgg (Sl.below H1.out Below.go))
   rw [HB1.out] at C
   refine C.mono ?_
   clear C
   rintro _ w1 ⟨rfl,hb1⟩
   obtain ⟨hc_w1,hf_w1⟩ := bcell hb1
   have hz0_w1 : w.heap.size < w1.heap.size := by have := hb1.size; (try simp at this); omega
   go_wp2_with fail
   have C := impl_NatOk A2 n2 c2 x.den s2 w1 (Sl.below H2.out Below.go)
   rw [HB2.out] at C
   refine C.mono ?_
   clear C
   rintro _ w2 ⟨rfl,hb2⟩
   obtain ⟨hc_w2,hf_w2⟩ := bcell hb2
   have hz0_w2 : w.heap.size < w2.heap.size := by have := hb2.size; (try simp at this); omega
   go_wp2
   go_ret
   exact ⟨ret_bool (E.out),Below.go⟩
  ·have HB2 := hid hb2
   have S := hid (ratOk_split hb1 hb2 H1.out.1 H2.out.1)
   rw [Bool.true_and,Bool.true_and] at S
   clear hb1 hb2
   rcases Nat.eq_zero_or_pos n2 with h0 | h0
   ·have E := hid (show false = ratOkB x by rw [S.out,h0]; rfl)
    have z0 : ((n2 : Int) == 0) = true := by simp [h0]
    clear h0
    go_enter Tryz.func45,Tryz.ntmps45
    go_wp2_with fail
    have C := impl_BigIntOk _ x.num s1 (w.alloc (.cells #[.bool x.num.neg, .slice A1 n1 c1, .slice A2 n2 c2] 32)) (TBigInt.mkAgg (Sl.below H1.out Below.go))
    rw [HB1.out] at C
    refine C.mono ?_
    clear C
    rintro _ w1 ⟨rfl,hb1⟩
    obtain ⟨hc_w1,hf_w1⟩ := bcell hb1
    have hz0_w1 : w.heap.size < w1.heap.size := by have := hb1.size; (try simp at this); omega
    go_wp2_with fail
    have C := impl_NatOk A2 n2 c2 x.den s2 w1 (Sl.below H2.out Below.go)
    rw [HB2.out] at C
    refine C.mono ?_
    clear C
    rintro _ w2 ⟨rfl,hb2⟩
    obtain ⟨hc_w2,hf_w2⟩ := bcell hb2
    have hz0_w2 : w.heap.size < w2.heap.size := by have := hb2.size; (try simp at this); omega
    go_wp2
    go_ret
    exact ⟨ret_bool (E.out),Below.go⟩
   have z0 : ((n2 : Int) == 0) = false := by simp; omega
   rcases Nat.lt_or_ge 24 n1 with h1 | h1
   ·have E := hid (show false = ratOkB x by rw [S.out]; simp; omega)
    have z1 : (24 : Int) < n1 := by omega
    clear h0 h1
    go_enter Tryz.func45,Tryz.ntmps45
    go_wp2_with fail
    have C := impl_BigIntOk _ x.num s1 (w.alloc (.cells #[.bool x.num.neg, .slice A1 n1 c1, .slice A2 n2 c2] 32)) (TBigInt.mkAgg (Sl.below H1.out Below.go))
    rw [HB1.out] at C
    refine C.mono ?_
    clear C
    rintro _ w1 ⟨rfl,hb1⟩
    obtain ⟨hc_w1,hf_w1⟩ := bcell hb1
    have hz0_w1 : w.heap.size < w1.heap.size := by have := hb1.size; (try simp at this); omega
    go_wp2_with fail
    have C := impl_NatOk A2 n2 c2 x.den s2 w1 (Sl.below H2.out Below.go)
    rw [HB2.out] at C
    refine C.mono ?_
    clear C
    rintro _ w2 ⟨rfl,hb2⟩
    obtain ⟨hc_w2,hf_w2⟩ := bcell hb2
    have hz0_w2 : w.heap.size < w2.heap.size := by have := hb2.size; (try simp at this); omega
    go_wp2
    go_ret
    exact ⟨ret_bool (E.out),Below.go⟩
   have z1 : ¬ ((24 : Int) < n1) := by omega
   rcases Nat.lt_or_ge 24 n2 with h2 | h2
   ·have E := hid (show false = ratOkB x by rw [S.out]; simp; omega)
    have z2 : (24 : Int) < n2 := by omega
    clear h0 h1 h2
    go_enter Tryz.func45,Tryz.ntmps45
    go_wp2_with fail
    have C := impl_BigIntOk _ x.num s1 (w.alloc (.cells #[.bool x.num.neg, .slice A1 n1 c1, .slice A2 n2 c2] 32)) (TBigInt.mkAgg (Sl.below H1.out Below.go))
    rw [HB1.out] at C
    refine C.mono ?_
    clear C
    rintro _ w1 ⟨rfl,hb1⟩
    obtain ⟨hc_w1,hf_w1⟩ := bcell hb1
    have hz0_w1 : w.heap.size < w1.heap.size := by have := hb1.size; (try simp at this); omega
    go_wp2_with fail
    have C := impl_NatOk A2 n2 c2 x.den s2 w1 (Sl.below H2.out Below.go)
    rw [HB2.out] at C
    refine C.mono ?_
    clear C
    rintro _ w2 ⟨rfl,hb2⟩
    obtain ⟨hc_w2,hf_w2⟩ := bcell hb2
    have hz0_w2 : w.heap.size < w2.heap.size := by have := hb2.size; (try simp at this); omega
    go_wp2
    go_ret
    exact ⟨ret_bool (E.out),Below.go⟩
   have z2 : ¬ ((24 : Int) < n2) := by omega
   have S2 := hid (show ratOkB x = decide (Int.gcd (val x.num.mag) (val x.den) = 1) by rw [S.out,decide_eq_true h0,decide_eq_true h1,decide_eq_true h2]; rfl)
   have CN := hid (bigOkB_iff.1 HB1.out).1.2
   have CD := hid (natOkB_iff.1 HB2.out).2
   have NG := hid (negOk_of HB1.out)
   have hn1 : n1 ≤ 65536 := by omega
   have hn2 : n2 ≤ 65536 := by omega
   clear S h1 h2
   cases hs : smallB x
   ·have HS := hid hs
    clear hs h0
    have E := hid (show decide (dig (Int.gcd (val x.num.mag) (val x.den)) = [1]) = ratOkB x by rw [S2.out]; simp only [dig_one])
    go_enter Tryz.func45,Tryz.ntmps45
    go_wp2_with fail
    have C := impl_BigIntOk _ x.num s1 (w.alloc (.cells #[.bool x.num.neg, .slice A1 n1 c1, .slice A2 n2 c2] 32)) (TBigInt.mkAgg (Sl.below H1.out Below.go))
    rw [HB1.out] at C
    refine C.mono ?_
    clear C
    rintro _ w1 ⟨rfl,hb1⟩
    obtain ⟨hc_w1,hf_w1⟩ := bcell hb1
    have hz0_w1 : w.heap.size < w1.heap.size := by have := hb1.size; (try simp at this); omega
    go_wp2_with fail
    have C := impl_NatOk A2 n2 c2 x.den s2 w1 (Sl.below H2.out Below.go)
    rw [HB2.out] at C
    refine C.mono ?_
    clear C
    rintro _ w2 ⟨rfl,hb2⟩
    obtain ⟨hc_w2,hf_w2⟩ := bcell hb2
    have hz0_w2 : w.heap.size < w2.heap.size := by have := hb2.size; (try simp at this); omega
    go_wp2_with fail
    have C := impl_isSmall _ x _ w2 (Agg.below HX.out Below.go)
    rw [HS.out] at C
    refine C.mono ?_
    clear C
    rintro _ w3 ⟨rfl,hb3⟩
    obtain ⟨hc_w3,hf_w3⟩ := bcell hb3
    have hz0_w3 : w.heap.size < w3.heap.size := by have := hb3.size; (try simp at this); omega
    go_wp2_with fail
    refine (impl_natGcd A1 A2 n1 n2 c1 c2 x.num.mag x.den _ _ _ (Sl.below H1.out Below.go) (Sl.below H2.out Below.go) CN.out CD.out hn1 hn2).mono ?_
    rintro _ w4 ⟨v4,rfl,hown,hb4⟩
    obtain ⟨A4,c4,s4,rfl,hs4, _⟩ := row_own hown (dig_can _).1.i64
    have HS4 := hid hs4
    clear hown hs4
    go_wp2_with fail
    refine (impl_isOne A4 _ c4 _ s4 w4 HS4.out).mono ?_
    rintro _ w5 ⟨rfl,hb5⟩
    go_wp2
    go_ret
    exact ⟨ret_bool (E.out),Below.go⟩
   ·have HS := hid hs
    have sm := hs
    unfold smallB at sm
    simp only [Bool.and_eq_true,decide_eq_true_eq] at sm
    have d1 := denv_small CD.out sm.2
    have m1 := numv_small CN.out.1 sm.1
    have d0 : 0 < denv x := CD.out.pos (by intro e; have := H2.out.1; rw [e] at this; simp at this; omega)
    have E := hid (show ((Int.gcd (numv x) (denv x) : Int) == 1) = ratOkB x by rw [S2.out,gcd_num]; rw [Bool.eq_iff_iff]; simp; omega)
    clear hs h0 sm
    have HN := hid (show numv x = numv x from rfl)
    generalize hnv : numv x = nv at *
    generalize hdv : denv x = dv at *
    have HNV := hid hnv; have HDV := hid hdv
    clear hnv hdv
    rcases Int.lt_or_le nv 0 with hneg | hneg
    ·have hm : nv ≤ -nv := by omega
     have E' := E
     clear E
     go_enter Tryz.func45,Tryz.ntmps45
     go_wp2_with fail
     have C := impl_BigIntOk _ x.num s1 (w.alloc (.cells #[.bool x.num.neg, .slice A1 n1 c1, .slice A2 n2 c2] 32)) (TBigInt.mkAgg (Sl.below H1.out Below.go))
     rw [HB1.out] at C
     refine C.mono ?_
     clear C
     rintro _ w1 ⟨rfl,hb1⟩
     obtain ⟨hc_w1,hf_w1⟩ := bcell hb1
     have hz0_w1 : w.heap.size < w1.heap.size := by have := hb1.size; (try simp at this); omega
     go_wp2_with fail
     have C := impl_NatOk A2 n2 c2 x.den s2 w1 (Sl.below H2.out Below.go)
     rw [HB2.out] at C
     refine C.mono ?_
     clear C
     rintro _ w2 ⟨rfl,hb2⟩
     obtain ⟨hc_w2,hf_w2⟩ := bcell hb2
     have hz0_w2 : w.heap.size < w2.heap.size := by have := hb2.size; (try simp at this); omega
     go_wp2_with fail
     have C := impl_isSmall _ x _ w2 (Agg.below HX.out Below.go)
     rw [HS.out] at C
     refine C.mono ?_
     clear C
     rintro _ w3 ⟨rfl,hb3⟩
     obtain ⟨hc_w3,hf_w3⟩ := bcell hb3
     have hz0_w3 : w.heap.size < w3.heap.size := by have := hb3.size; (try simp at this); omega
     go_wp2_with fail
     have C := impl_small _ x _ w3 (Agg.below HX.out Below.go) HS.out CN.out.1 NG.out
     rw [HNV.out,HDV.out] at C
     refine C.mono ?_
     clear C
     rintro _ w4 ⟨rfl,hb4⟩
     obtain ⟨hc_w4,hf_w4⟩ := bcell hb4
     have hz0_w4 : w.heap.size < w4.heap.size := by have := hb4.size; (try simp at this); omega
     go_wp2_with fail
     refine (impl_gcd (-nv) dv w4 (by omega) (by omega) (by omega) (by omega)).mono ?_
     rintro _ w5 ⟨rfl,hb5⟩
     go_wp2
     go_ret
     exact ⟨ret_bool (E'.out),Below.go⟩
    ·have hm : -nv ≤ nv := by omega
     have E' := E
     clear E
     go_enter Tryz.func45,Tryz.ntmps45
     go_wp2_with fail
     have C := impl_BigIntOk _ x.num s1 (w.alloc (.cells #[.bool x.num.neg, .slice A1 n1 c1, .slice A2 n2 c2] 32)) (TBigInt.mkAgg (Sl.below H1.out Below.go))
     rw [HB1.out] at C
     refine C.mono ?_
     clear C
     rintro _ w1 ⟨rfl,hb1⟩
     obtain ⟨hc_w1,hf_w1⟩ := bcell hb1
     have hz0_w1 : w.heap.size < w1.heap.size := by have := hb1.size; (try simp at this); omega
     go_wp2_with fail
     have C := impl_NatOk A2 n2 c2 x.den s2 w1 (Sl.below H2.out Below.go)
     rw [HB2.out] at C
     refine C.mono ?_
     clear C
     rintro _ w2 ⟨rfl,hb2⟩
     obtain ⟨hc_w2,hf_w2⟩ := bcell hb2
     have hz0_w2 : w.heap.size < w2.heap.size := by have := hb2.size; (try simp at this); omega
     go_wp2_with fail
     have C := impl_isSmall _ x _ w2 (Agg.below HX.out Below.go)
     rw [HS.out] at C
     refine C.mono ?_
     clear C
     rintro _ w3 ⟨rfl,hb3⟩
     obtain ⟨hc_w3,hf_w3⟩ := bcell hb3
     have hz0_w3 : w.heap.size < w3.heap.size := by have := hb3.size; (try simp at this); omega
     go_wp2_with fail
     have C := impl_small _ x _ w3 (Agg.below HX.out Below.go) HS.out CN.out.1 NG.out
     rw [HNV.out,HDV.out] at C
     refine C.mono ?_
     clear C
     rintro _ w4 ⟨rfl,hb4⟩
     obtain ⟨hc_w4,hf_w4⟩ := bcell hb4
     have hz0_w4 : w.heap.size < w4.heap.size := by have := hb4.size; (try simp at this); omega
     go_wp2_with fail
     refine (impl_gcd nv dv w4 (by omega) (by omega) (by omega) (by omega)).mono ?_
     rintro _ w5 ⟨rfl,hb5⟩
     go_wp2
     go_ret
     exact ⟨ret_bool (E'.out),Below.go⟩

set_option maxRecDepth 10000 in
set_option maxHeartbeats 1000000 in
theorem index_rats (f : Nat) (hf : Known f) (A : Option Addr) (n c : Nat) (xs : List TRat) (bs : List Nat) (w : World) (p : TRat → Bool) (hx : Sl w A n c xs bs)
  (hp : ∀ (v : Value) (x : TRat) (b : List Nat) (w : World),x ∈ xs → Agg w v x b → Calls Tryz.prog f #[v] w (Gives w (.bool (p x)))) :
  Calls Tryz.prog 133 #[.slice A n c, .func (.func f) #[] #[]] w (GivesIdx w (xs.any p)) := by
 have HL := hid hx.1
 have HX := hid hx
 have HP := hid hp
 unfold Known at hf
 have hm : n ≤ maxLen := Nat.le_trans hx.2.1 hx.2.2.1
 unfold maxLen at hm
 clear hx hp
 go_enter Tryz.func133,Tryz.ntmps133
 go_wp2_with fail
 go_loopg [8] n (fun g s8 wr => ∃ k : Nat,k + g = n ∧ s8 = .int .i64 k ∧ Hid ((xs.take k).any p = false) ∧ Below w.heap.size w wr)
 case atStart => exact ⟨0,by omega,rfl,by show (xs.take 0).any p = false; simp,Below.refl _ _⟩
 case round =>
  obtain ⟨k,hk,rfl,ha,hb⟩ := hrel
  rcases Nat.lt_or_ge k n with hkn | hkn
  ·obtain ⟨be,offe,x,A1,m1,d1,s1,A2,m2,d2,s2,rfl,hble,hx1,e0,e1,e2,hag⟩ := TRat.elemA (Sl.below HX.out hb) hkn
   have HX1 := hid hx1
   have HAG := hid hag
   have hki : (k : Int) < n := by omega
   obtain ⟨g,rfl⟩ : ∃ g,gk = g + 1 := ⟨gk - 1,by omega⟩
   have hk' := hid (show k + 1 + g = n by omega)
   have hkj : k + 1 ≤ n := hkn
   clear hx1 hk hkn hag
   go_wp2_with fail
   refine (HP.out _ x _ wr (List.mem_of_getElem? HX1.out) HAG.out).mono ?_
   rintro _ w1 ⟨rfl,hb1⟩
   have hb2 := Below.next hb hb1
   cases hpx : p x
   ·have r1 := hid (any_step HX1.out ha.out hpx)
    clear hpx
    go_wp2_with fail
    go_roundg g
    case measure => omega
    case rel => exact ⟨k + 1,hk'.out,by go_num,r1,hb2⟩
   ·have r1 := hid (any_at HX1.out hpx)
    clear hpx
    go_wp2
    go_ret
    exact ⟨k,rfl,by rw [r1.out]; simp,hb2⟩
  ·have e := hid (show xs.any p = false by
    have := ha.out
    rwa [List.take_of_length_le (by rw [HL.out]; omega)] at this)
   have hki : ¬ ((k : Int) < n) := by omega
   clear hk hkn
   go_wp2
   go_ret
   exact ⟨-1,rfl,by rw [e.out]; rfl,hb⟩

set_option maxHeartbeats 400000 in
theorem contains_rats (f : Nat) (hf : Known f) (A : Option Addr) (n c : Nat) (xs : List TRat) (bs : List Nat) (w : World) (p : TRat → Bool) (hx : Sl w A n c xs bs)
  (hp : ∀ (v : Value) (x : TRat) (b : List Nat) (w : World),x ∈ xs → Agg w v x b → Calls Tryz.prog f #[v] w (Gives w (.bool (p x)))) :
  Calls Tryz.prog 86 #[.slice A n c, .func (.func f) #[] #[]] w (Gives w (.bool (xs.any p))) := by
 have HX := hid hx
 have HP := hid hp
 have HF := hid hf
 clear hx hp hf
 go_enter Tryz.func86,Tryz.ntmps86
 go_wp2_with fail
 refine (index_rats f HF.out A n c xs bs _ p (Sl.below HX.out Below.go) HP.out).mono ?_
 rintro _ w1 ⟨r,rfl,e,hb1⟩
 have E := hid e
 clear e
 go_wp2
 go_ret
 exact ⟨ret_bool E.out,hb1⟩

theorem known_areRats_1 : Known 101 := fun a w => by kernel_rfl
def ratBad (x : TRat) : Bool := !ratOkB x
set_option maxHeartbeats 400000 in
theorem impl_areRats_1 (v : Value) (x : TRat) (b : List Nat) (w : World) (hx : Agg w v x b) : Calls Tryz.prog 101 #[v] w (Gives w (.bool (ratBad x))) := by
 have HX := hid hx
 obtain ⟨A1,n1,c1,s1,A2,n2,c2,s2,rfl,rfl,hs1,hs2⟩ := TRat.agg hx
 clear hs1 hs2 hx
 go_enter Tryz.func101,Tryz.ntmps101
 go_wp2_with fail
 refine (impl_RatOk _ x _ _ (Agg.below HX.out Below.go)).mono ?_
 rintro _ w1 ⟨rfl,hb1⟩
 go_wp2
 go_ret
 exact ⟨rfl,Below.go⟩

set_option maxHeartbeats 400000 in
theorem impl_areRats (A : Option Addr) (n c : Nat) (xs : List TRat) (bs : List Nat) (w : World) (hx : Sl w A n c xs bs) :
  Calls Tryz.prog 52 #[.slice A n c] w (Gives w (.bool (xs.all ratOkB))) := by
 have HX := hid hx
 have E := hid (show (!xs.any ratBad) = xs.all ratOkB by rw [List.not_any_eq_all_not]; congr 1; funext x; unfold ratBad; rw [Bool.not_not])
 clear hx
 go_enter Tryz.func52,Tryz.ntmps52
 go_wp2_with fail
 refine (contains_rats 101 known_areRats_1 A n c xs bs _ ratBad (Sl.below HX.out Below.go) (fun v x b w _ h => impl_areRats_1 v x b w h)).mono ?_
 rintro _ w1 ⟨rfl,hb1⟩
 go_wp2
 go_ret
 exact ⟨ret_bool E.out,Below.go⟩

theorem gcd_pos_right {a D : Int} (hD : 0 < D) : 0 < Int.gcd a D := Int.gcd_pos_of_ne_zero_right a (by omega)
theorem red_val {x : TBigInt} {D : Int} (hc : XN.Can x.mag) (hn : NegOk x) (hD : 0 < D) :
  encI (ival x / (Int.gcd (val x.mag) D : Nat)) = ⟨x.neg,dig (val x.mag / (Int.gcd (val x.mag) D : Nat)).toNat⟩ := by
 have hg := gcd_pos_right (a := val x.mag) hD
 obtain ⟨q,hq⟩ := Int.gcd_dvd_left (val x.mag) D
 generalize Int.gcd (val x.mag) D = g at *
 have h0 := val_nonneg hc.1
 have hg' : (0 : Int) < g := by omega
 have hq0 : 0 ≤ q := by
  rcases Int.lt_or_le q 0 with h | h
  ·have := Int.mul_neg_of_pos_of_neg hg' h; omega
  ·exact h
 unfold ival
 cases hx : x.neg
 ·rw [if_neg (by simp),hq,Int.mul_ediv_cancel_left _ (by omega)]
  unfold encI
  rw [show q.natAbs = q.toNat by omega]
  congr 1
  simp; omega
 ·have hp := hc.pos (hn hx)
  have hq1 : 0 < q := by
   rcases Int.lt_or_le 0 q with h | h
   ·exact h
   ·have : q = 0 := by omega
    rw [this] at hq; omega
  rw [if_pos rfl,hq,show -((g : Int) * q) = g * -q by rw [Int.mul_neg],Int.mul_ediv_cancel_left _ (by omega),Int.mul_ediv_cancel_left _ (by omega)]
  unfold encI
  rw [show (-q).natAbs = q.toNat by omega]
  congr 1
  simp; omega
theorem red_gcd (x : TBigInt) (D : Int) : Int.gcd (ival x) D = Int.gcd (val x.mag) D := by unfold ival; split <;> simp
theorem red_mk {x : TBigInt} {D : Int} (hc : XN.Can x.mag) (hn : NegOk x) (hD : 0 < D) :
  mkR (ival x) D = if (dig (val x.mag / (Int.gcd (val x.mag) D : Nat)).toNat).length ≤ 24 ∧ (dig (D / (Int.gcd (val x.mag) D : Nat)).toNat).length ≤ 24 then
   ⟨⟨x.neg,dig (val x.mag / (Int.gcd (val x.mag) D : Nat)).toNat⟩,dig (D / (Int.gcd (val x.mag) D : Nat)).toNat⟩ else zeroR := by
 have e := red_val hc hn hD
 unfold mkR
 rw [red_gcd]
 have e1 : dig (ival x / (Int.gcd (val x.mag) D : Nat)).natAbs = dig (val x.mag / (Int.gcd (val x.mag) D : Nat)).toNat := by
  have := congrArg TBigInt.mag e; exact this
 have e2 : (D / (Int.gcd (val x.mag) D : Nat)).natAbs = (D / (Int.gcd (val x.mag) D : Nat)).toNat := by
  have := Int.ediv_nonneg (a := D) (b := (Int.gcd (val x.mag) D : Nat)) (by omega) (by omega); omega
 rw [e1,e2,e]
theorem Own.left {w0 w : World} {a b : List Nat} (h : Own w0 w (a ++ b)) : Own w0 w a := ⟨(List.nodup_append.1 h.1).1,fun g hg => h.2 g (List.mem_append_left _ hg)⟩
theorem natGcd_sl (A B : Option Addr) (n m c d : Nat) (xs ys : List Int) (bs ds : List Nat) (w : World) (hx : Sl w A n c xs bs) (hy : Sl w B m d ys ds) (hcx : XN.Can xs) (hcy : XN.Can ys) (hn : n ≤ 65536) (hm : m ≤ 65536) :
  Calls Tryz.prog 99 #[.slice A n c, .slice B m d] w (GivesSl w (dig (Int.gcd (val xs) (val ys)))) :=
 (impl_natGcd A B n m c d xs ys bs ds w hx hy hcx hcy hn hm).mono fun _ _ ⟨_,he,ho,hb⟩ => by subst he; exact gives_row ho rfl (dig_can _).1.i64 hb
theorem zero_agg (w : World) : Agg w (.agg #[.bool false, .slice none 0 0, .slice none 0 0]) zeroR [] := TRat.mkAgg (x := zeroR) (Sl.nil w) (Sl.nil w)
theorem gives_zero {w W : World} (hb : Below w.heap.size w W) : GivesAgg w zeroR (.returned (.agg #[.bool false, .slice none 0 0, .slice none 0 0])) W := ⟨_, [],rfl,zero_agg W,Own.nil _ _,hb⟩

theorem rat_fin {w W : World} {x : TRat} {A1 A2 : Option Addr} {n1 c1 n2 c2 : Nat} {b1 b2 : List Nat} (h1 : Sl W A1 n1 c1 x.num.mag b1 ∧ Own w W b1) (h2 : Sl W A2 n2 c2 x.den b2 ∧ Own w W b2) (hd : ∀ b ∈ b1,b ∉ b2) (hb : Below w.heap.size w W) :
  GivesAgg w x (.returned (.agg #[.bool x.num.neg, .slice A1 n1 c1, .slice A2 n2 c2])) W :=
 ⟨_,b1 ++ b2,rfl,TRat.mkAgg h1.1 h2.1,Own.append h1.2 h2.2 hd,hb⟩

section
variable {x : TBigInt} {ys : List Int} {v : Value} {B : Option Addr} {m d : Nat} {b1 b2 : List Nat} {w : World}

set_option maxHeartbeats 2000000 in
theorem red_shared (hx : Agg w v x b1) (hy : Sl w B m d ys b2) (cx : XN.Can x.mag) (cy : XN.Can ys) (hm0 : 0 < m) (lx : x.mag.length ≤ 65536) (ly : m ≤ 65536) (h1 : Int.gcd (val x.mag) (val ys) = 1) (h24 : x.mag.length ≤ 24) (d24 : m ≤ 24) :
  ∃ A1 n1 c1,v = .agg #[.bool x.neg, .slice A1 n1 c1] ∧ Sl w A1 n1 c1 x.mag b1 ∧ Calls Tryz.prog 56 #[v, .slice B m d] w (Gives w (.agg #[.bool x.neg, .slice A1 n1 c1, .slice B m d])) := by
 obtain ⟨A1,n1,c1,s1,rfl,rfl,hs1⟩ := TBigInt.agg hx
 refine ⟨A1,n1,c1,rfl,hs1, ?_⟩
 have L1 := hid hs1.1
 have H1 := hid hs1; have H2 := hid hy
 have CX := hid cx; have CY := hid cy
 have HD := hid (cy.pos (by intro e; rw [← hy.1,e] at hm0; simp at hm0))
 have hn1 : n1 ≤ 65536 := by have := hs1.1; omega
 have ISO := hid (show decide (dig (Int.gcd (val x.mag) (val ys)) = [1]) = true by rw [h1]; rfl)
 have z1 : ¬ ((24 : Int) < n1) := by have := hs1.1; omega
 have z2 : ¬ ((24 : Int) < m) := by omega
 clear hx hy cx cy hs1 h1 h24 d24 hm0 lx
 go_enter Tryz.func56,Tryz.ntmps56
 go_wp2_with fail
 refine (natGcd_sl A1 B n1 m c1 d x.mag ys _ _ _ (Sl.below H1.out Below.go) (Sl.below H2.out Below.go) CX.out CY.out hn1 ly).mono ?_
 rintro _ w1 ⟨A3,n3,c3,s3,rfl,hs3,ho3,hb1⟩
 have HS3 := hid hs3
 have HO3 := hid ho3
 have HG3 := hid hs3.1
 clear hs3 ho3
 obtain ⟨hc_w1,hf_w1⟩ := bcell hb1
 have hz0_w1 : w.heap.size < w1.heap.size := by have := hb1.size; (try simp at this); omega
 have hz1_w1 : w.heap.size + 1 < w1.heap.size := by have := hb1.size; (try simp at this); omega
 go_wp2_with fail
 have C := impl_isOne A3 n3 c3 _ s3 w1 HS3.out
 rw [ISO.out] at C
 refine C.mono ?_
 clear C
 rintro _ w2 ⟨rfl,hb2⟩
 obtain ⟨hc_w2,hf_w2⟩ := bcell hb2
 have hz0_w2 : w.heap.size < w2.heap.size := by have := hb2.size; (try simp at this); omega
 have hz1_w2 : w.heap.size + 1 < w2.heap.size := by have := hb2.size; (try simp at this); omega
 go_wp2
 exact bodyPost_ret (v := .agg #[.bool x.neg, .slice A1 n1 c1, .slice B m d]) (by simp [results,Tryz.results56,go_sem, *]) rfl ⟨rfl,Below.go⟩

set_option maxHeartbeats 4000000 in
theorem red_new (hx : Agg w v x b1) (hy : Sl w B m d ys b2) (cx : XN.Can x.mag) (cy : XN.Can ys) (hm0 : 0 < m) (lx : x.mag.length ≤ 65536) (ly : m ≤ 65536) (nx : NegOk x) (h1 : ¬ (Int.gcd (val x.mag) (val ys) = 1 ∧ x.mag.length ≤ 24 ∧ m ≤ 24)) :
  Calls Tryz.prog 56 #[v, .slice B m d] w (GivesAgg w (mkR (ival x) (val ys))) := by
 obtain ⟨A1,n1,c1,s1,rfl,rfl,hs1⟩ := TBigInt.agg hx
 have L1 := hid hs1.1
 have H1 := hid hs1; have H2 := hid hy
 have CX := hid cx; have CY := hid cy
 have HD := hid (cy.pos (by intro e; rw [← hy.1,e] at hm0; simp at hm0))
 have hn1 : n1 ≤ 65536 := by have := hs1.1; omega
 have MK := hid (red_mk cx nx HD.out)
 have HG := hid (gcd_pos_right (a := val x.mag) HD.out)
 have HL := hid (show m = ys.length from hy.1.symm)
 by_cases hg : Int.gcd (val x.mag) (val ys) = 1
 ·have E := hid (show mkR (ival x) (val ys) = zeroR by
   rw [MK.out,hg,if_neg]
   rw [Int.natCast_one,Int.ediv_one,Int.ediv_one, ← CX.out.eq_dig, ← CY.out.eq_dig, ← HL.out]
   intro h; exact h1 ⟨hg,h⟩)
  have ISO := hid (show decide (dig (Int.gcd (val x.mag) (val ys)) = [1]) = true by rw [hg]; rfl)
  rw [E.out]
  rcases Nat.lt_or_ge 24 n1 with h24 | h24
  ·have z1 : (24 : Int) < n1 := by omega
   clear hx hy cx cy nx hs1 h1 h24 hm0 lx hg MK
   go_enter Tryz.func56,Tryz.ntmps56
   go_wp2_with fail
   refine (natGcd_sl A1 B n1 m c1 d x.mag ys _ _ _ (Sl.below H1.out Below.go) (Sl.below H2.out Below.go) CX.out CY.out hn1 ly).mono ?_
   rintro _ w1 ⟨A3,n3,c3,s3,rfl,hs3,ho3,hb1⟩
   have HS3 := hid hs3
   have HO3 := hid ho3
   have HG3 := hid hs3.1
   clear hs3 ho3
   obtain ⟨hc_w1,hf_w1⟩ := bcell hb1
   have hz0_w1 : w.heap.size < w1.heap.size := by have := hb1.size; (try simp at this); omega
   have hz1_w1 : w.heap.size + 1 < w1.heap.size := by have := hb1.size; (try simp at this); omega
   go_wp2_with fail
   have C := impl_isOne A3 n3 c3 _ s3 w1 HS3.out
   rw [ISO.out] at C
   refine C.mono ?_
   clear C
   rintro _ w2 ⟨rfl,hb2⟩
   obtain ⟨hc_w2,hf_w2⟩ := bcell hb2
   have hz0_w2 : w.heap.size < w2.heap.size := by have := hb2.size; (try simp at this); omega
   have hz1_w2 : w.heap.size + 1 < w2.heap.size := by have := hb2.size; (try simp at this); omega
   go_wp2
   refine bodyPost_ret (v := .agg #[.bool false, .slice none 0 0, .slice none 0 0]) (by simp [results,Tryz.results56,go_sem, *]) rfl ?_; try rw [E.out]
   exact gives_zero Below.go
  ·have z1 : ¬ ((24 : Int) < n1) := by omega
   have z2 : (24 : Int) < m := by
    rcases Nat.lt_or_ge 24 m with h | h
    ·omega
    ·exact absurd ⟨hg,by rw [hs1.1]; exact h24,h⟩ h1
   clear hx hy cx cy nx hs1 h1 h24 hm0 lx hg MK
   go_enter Tryz.func56,Tryz.ntmps56
   go_wp2_with fail
   refine (natGcd_sl A1 B n1 m c1 d x.mag ys _ _ _ (Sl.below H1.out Below.go) (Sl.below H2.out Below.go) CX.out CY.out hn1 ly).mono ?_
   rintro _ w1 ⟨A3,n3,c3,s3,rfl,hs3,ho3,hb1⟩
   have HS3 := hid hs3
   have HO3 := hid ho3
   have HG3 := hid hs3.1
   clear hs3 ho3
   obtain ⟨hc_w1,hf_w1⟩ := bcell hb1
   have hz0_w1 : w.heap.size < w1.heap.size := by have := hb1.size; (try simp at this); omega
   have hz1_w1 : w.heap.size + 1 < w1.heap.size := by have := hb1.size; (try simp at this); omega
   go_wp2_with fail
   have C := impl_isOne A3 n3 c3 _ s3 w1 HS3.out
   rw [ISO.out] at C
   refine C.mono ?_
   clear C
   rintro _ w2 ⟨rfl,hb2⟩
   obtain ⟨hc_w2,hf_w2⟩ := bcell hb2
   have hz0_w2 : w.heap.size < w2.heap.size := by have := hb2.size; (try simp at this); omega
   have hz1_w2 : w.heap.size + 1 < w2.heap.size := by have := hb2.size; (try simp at this); omega
   go_wp2
   refine bodyPost_ret (v := .agg #[.bool false, .slice none 0 0, .slice none 0 0]) (by simp [results,Tryz.results56,go_sem, *]) rfl ?_; try rw [E.out]
   exact gives_zero Below.go
 ·have ISO := hid (show decide (dig (Int.gcd (val x.mag) (val ys)) = [1]) = false by simp only [dig_one]; simpa using hg)
  have GC := hid (dig_can (Int.gcd (val x.mag) (val ys)))
  have GV := hid (val_dig (Int.gcd (val x.mag) (val ys)))
  clear hx hy cx cy nx hs1 h1 hm0 lx hg
  go_enter Tryz.func56,Tryz.ntmps56
  go_wp2_with fail
  refine (natGcd_sl A1 B n1 m c1 d x.mag ys _ _ _ (Sl.below H1.out Below.go) (Sl.below H2.out Below.go) CX.out CY.out hn1 ly).mono ?_
  rintro _ w1 ⟨A3,n3,c3,s3,rfl,hs3,ho3,hb1⟩
  have HS3 := hid hs3
  have HO3 := hid ho3
  have HG3 := hid hs3.1
  clear hs3 ho3
  obtain ⟨hc_w1,hf_w1⟩ := bcell hb1
  have hz0_w1 : w.heap.size < w1.heap.size := by have := hb1.size; (try simp at this); omega
  have hz1_w1 : w.heap.size + 1 < w1.heap.size := by have := hb1.size; (try simp at this); omega
  go_wp2_with fail
  have C := impl_isOne A3 n3 c3 _ s3 w1 HS3.out
  rw [ISO.out] at C
  refine C.mono ?_
  clear C
  rintro _ w2 ⟨rfl,hb2⟩
  obtain ⟨hc_w2,hf_w2⟩ := bcell hb2
  have hz0_w2 : w.heap.size < w2.heap.size := by have := hb2.size; (try simp at this); omega
  have hz1_w2 : w.heap.size + 1 < w2.heap.size := by have := hb2.size; (try simp at this); omega
  have hn3 : 0 < n3 := by
   have h : dig (Int.gcd (val x.mag) (val ys)) ≠ [] := by rw [Ne,dig_nil]; have := HG.out; omega
   have := HG3.out
   have := List.length_pos_iff.2 h
   omega
  go_wp2_with fail
  refine (impl_natDiv A1 A3 n1 n3 c1 c3 x.mag _ _ s3 w2 (Sl.below H1.out Below.go) (Sl.below HS3.out hb2) CX.out GC.out hn1 hn3).mono ?_
  rintro _ w3 ⟨Q1,k1,e1,t1,R1,l1,f1,u1,rfl,hq1, _,ho1,hb3⟩
  have HQ1 := hid hq1
  have HO1 := hid (Own.left ho1)
  clear hq1 ho1
  obtain ⟨hc_w3,hf_w3⟩ := bcell hb3
  have hz0_w3 : w.heap.size < w3.heap.size := by have := hb3.size; (try simp at this); omega
  have hz1_w3 : w.heap.size + 1 < w3.heap.size := by have := hb3.size; (try simp at this); omega
  have HS3' := hid (fun (W : World) (ha : Above (w.heap.size + 2) w1 W) => (fin_sl (w := w) HS3.out HO3.out (by simp; omega) (by simp) ha).1)
  go_wp2_with fail
  refine (impl_natDiv B A3 m n3 d c3 ys _ _ s3 _ (Sl.below H2.out Below.go) (HS3'.out _ Above.go) CY.out GC.out ly hn3).mono ?_
  rintro _ w4 ⟨Q2,k2,e2,t2,R2,l2,f2,u2,rfl,hq2, _,ho2,hb4⟩
  have HQ2 := hid hq2
  have HO2 := hid (Own.left ho2)
  clear hq2 ho2
  obtain ⟨hc_w4,hf_w4⟩ := bcell hb4
  have hz0_w4 : w.heap.size < w4.heap.size := by have := hb4.size; (try simp at this); omega
  have hz1_w4 : w.heap.size + 1 < w4.heap.size := by have := hb4.size; (try simp at this); omega
  have g1 : w3.cell? ⟨w.heap.size,1,none⟩ = some (.slice A1 n1 c1) := by
   rw [hc_w3 _ _ hz0_w2,hc_w2 _ _ hz0_w1,hc_w1 _ _ (by simp; omega)]; go_simp
  have G1 := World.cell?_setCell_same w3 _ (.slice Q1 k1 e1) g1
  have G0 : (w3.setCell ⟨w.heap.size,1,none⟩ (.slice Q1 k1 e1)).cell? ⟨w.heap.size,0,none⟩ = some (.bool x.neg) := by
   have h : w3.cell? ⟨w.heap.size,0,none⟩ = some (.bool x.neg) := by rw [hc_w3 _ _ hz0_w2,hc_w2 _ _ hz0_w1,hc_w1 _ _ (by simp; omega)]; go_simp
   exact (World.cell?_setCell_other w3 ⟨w.heap.size,1,none⟩ ⟨w.heap.size,0,none⟩ (.slice Q1 k1 e1) (by simp)).trans h
  clear g1
  rw [GV.out] at HQ1 HQ2
  have K1 := hid HQ1.out.1
  have K2 := hid HQ2.out.1
  have hw31 : w.heap.size + 2 ≤ w2.heap.size := by have := hb1.size; have := hb2.size; simp at *; omega
  have hw43 : w2.heap.size ≤ w3.heap.size := hb3.size
  rcases Nat.lt_or_ge 24 k1 with h24 | h24
  ·have E := hid (show mkR (ival x) (val ys) = zeroR by rw [MK.out,if_neg]; rw [K1.out]; omega)
   have z1 : (24 : Int) < k1 := by omega
   clear h24
   go_wp2
   refine bodyPost_ret (v := .agg #[.bool false, .slice none 0 0, .slice none 0 0]) (by simp [results,Tryz.results56,go_sem, *]) rfl ?_; try rw [E.out]
   exact gives_zero Below.go
  ·have z1 : ¬ ((24 : Int) < k1) := by omega
   rcases Nat.lt_or_ge 24 k2 with d24 | d24
   ·have E := hid (show mkR (ival x) (val ys) = zeroR by rw [MK.out,if_neg]; rw [K2.out]; omega)
    have z2 : (24 : Int) < k2 := by omega
    clear h24 d24
    go_wp2
    refine bodyPost_ret (v := .agg #[.bool false, .slice none 0 0, .slice none 0 0]) (by simp [results,Tryz.results56,go_sem, *]) rfl ?_; try rw [E.out]
    exact gives_zero Below.go
   ·have z2 : ¬ ((24 : Int) < k2) := by omega
    have E := hid (show mkR (ival x) (val ys) = ⟨⟨x.neg,dig (val x.mag / (Int.gcd (val x.mag) (val ys) : Nat)).toNat⟩,dig (val ys / (Int.gcd (val x.mag) (val ys) : Nat)).toNat⟩ by rw [MK.out,if_pos]; rw [K1.out,K2.out]; exact ⟨h24,d24⟩)
    clear h24 d24
    go_wp2
    refine bodyPost_ret (v := .agg #[.bool x.neg, .slice Q1 k1 e1, .slice Q2 k2 e2]) (by simp [results,Tryz.results56,go_sem, *]) rfl ?_
    have f1 := fun (W : World) (ha : Above (w.heap.size + 2) w3 W) => fin_sl (w := w) HQ1.out HO1.out (by omega) hw31 ha
    have f2 := fun (W : World) (ha : Above (w.heap.size + 2) w4 W) => fin_sl (w := w) HQ2.out HO2.out (by simp; omega) (by simp; omega) ha
    rw [E.out]
    refine rat_fin (x := ⟨⟨x.neg,dig (val x.mag / (Int.gcd (val x.mag) (val ys) : Nat)).toNat⟩,dig (val ys / (Int.gcd (val x.mag) (val ys) : Nat)).toNat⟩) (f1 _ ?_) (f2 _ ?_) (apart_of_lt (N := w3.heap.size) HO1.out.lt (fun b hb => by have := (HO2.out.2 b hb).1; simp at this; exact this)) ?_
    ·exact Above.go
    ·exact Above.go
    ·exact Below.go
end
end Go.Proofs.YtpfipnankjeokaaGreat.X
