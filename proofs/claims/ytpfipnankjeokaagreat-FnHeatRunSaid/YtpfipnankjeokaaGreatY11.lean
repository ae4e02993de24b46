/- Part of a claim's proof: texts of this repository's wip,joined by prune.py,without the theorems that the claim does not reach. -/
import Derived.Test.YtpfipnankjeokaaGreatY9
import Derived.Test.YtpfipnankjeokaaGreatY2
import Derived.Test.YtpfipnankjeokaaGreatY10
import Derived.Deep.CutBlock
import Derived.Deep.DeepCutAuto
set_option linter.constructorNameAsVariable false
namespace Go.Proofs.YtpfipnankjeokaaGreat.X
open Go.RowKit Go.XB Go.XN
attribute [local go_sem] fillBy opAt deps depOf Region.wanted yielded
attribute [local simp] deps depOf MP.eq MP.agg MP.sl Facts

theorem Own.right_ {w0 w : World} {a b : List Nat} (h : Own w0 w (a ++ b)) : Own w0 w b := ⟨(List.nodup_append.1 h.1).2.1,fun g hg => h.2 g (List.mem_append_right _ hg)⟩

set_option maxHeartbeats 2000000 in
theorem spec_l02Gcd (A B : Option Addr) (n m c d : Nat) (xs ys : List Int) (bs ds : List Nat) (w : World) (hx : Sl w A n c xs bs) (hy : Sl w B m d ys ds) (hcx : XN.Can xs) (hcy : XN.Can ys) (hn : n ≤ 65536) (hm : m ≤ 65536) :
  Calls Tryz.prog 164 #[.slice A n c, .slice B m d] w (GivesSl w (dig (Int.gcd (val xs) (val ys)))) := by
 obtain ⟨i0,hi,hz0,hz1,hz2⟩ := info_parts infoI
 have HX := hid hx
 have HY := hid hy
 have CX := hid hcx
 have CY := hid hcy
 have hn' := hid (Nat.le_trans hn (show 65536 ≤ 1048576 by decide))
 have hm' := hid (Nat.le_trans hm (show 65536 ≤ 1048576 by decide))
 clear hx hy hcx hcy
 go_enter Tryz.func164,Tryz.ntmps164
 go_wp2_with (first
  | (at_builtin; (refine wpList_clone rfl _ _ 28 rfl 3 i0 Tryz.underlying28 hi hz0 hz1 hz2 _ rfl A n c xs bs rfl (Sl.below HX.out Below.go) hn'.out ?_); intro A1 c1 s1 w1 hs1 ho1 hb1)
  | (at_builtin; (refine wpList_clone rfl _ _ 28 rfl 3 i0 Tryz.underlying28 hi hz0 hz1 hz2 _ rfl B m d ys ds rfl (Sl.below HY.out Below.go) hm'.out ?_); intro A2 c2 s2 w2 hs2 ho2 hb2))
 have bb1 : Below w.heap.size w w1 := Below.go
 have bb2 : Below w.heap.size w w2 := Below.go
 have hs1' := hid (Sl.below (Sl.below hs1 (show Below w1.heap.size w1 _ from (Below.refl _ _).alloc (Nat.le_refl _) _)) hb2)
 have ho1' := hid (Own.older (Own.below (Own.below ho1 (show Below w1.heap.size w1 _ from (Below.refl _ _).alloc (Nat.le_refl _) _)) hb2) (show w.heap.size ≤ _ by simp))
 have hs2' := hid hs2
 have ho2' := hid (Own.older ho2 (show w.heap.size ≤ _ by have := bb1.size; simp; omega))
 clear hs1 ho1 hs2 ho2 hb1 hb2 bb1
 go_loopg [5,6] (val ys).toNat (fun g s0 s1 wr => ∃ (A B : Option Addr) (n m c d : Nat) (x y : List Int) (bs ds : List Nat),s0 = .slice A n c ∧ s1 = .slice B m d ∧ Hid (Sl wr A n c x bs) ∧ Hid (Own w wr bs) ∧ Hid (Sl wr B m d y ds) ∧ Hid (Own w wr ds) ∧ Hid (XN.Can x) ∧ Hid (XN.Can y) ∧ n ≤ 65536 ∧ m ≤ 65536 ∧ Hid (Int.gcd (val x) (val y) = Int.gcd (val xs) (val ys)) ∧ Hid (val y = g) ∧ Below w.heap.size w wr)
 case atStart => exact ⟨A1,A2,n,m,c1,c2,xs,ys,s1,s2,rfl,rfl,hs1',ho1',hs2',ho2',CX,CY,hn,hm,rfl,(Int.toNat_of_nonneg (val_nonneg CY.out.1)).symm,bb2⟩
 case round =>
  obtain ⟨A,B,n,m,c,d,x,y,bs,ds,rfl,rfl,hx,ox,hy,oy,cx,cy,hn,hm,hg,hk,hb⟩ := hrel
  clear hs1' ho1' hs2' ho2' bb2 hn' hm'
  have hl := hid (show y.length = m from hy.out.1)
  have hlx := hid (show x.length = n from hx.out.1)
  by_cases hm0 : 0 < m
  ·have hyp := hid (cy.out.pos (by intro e; have := hl.out; rw [e] at this; simp at this; omega))
   by_cases hsm : n < 3 ∧ m < 3
   ·have hn3 : (n : Int) < 3 := by omega
    have hm3 : (m : Int) < 3 := by omega
    have X0 := hid (val_nonneg cx.out.1)
    have Y0 := hid (val_nonneg cy.out.1)
    have X1 := hid (show val x ≤ 9223372036854775807 by
     have h1 := val_lt cx.out.1
     have h2 := pw_mono (show x.length ≤ 2 by rw [hlx.out]; omega)
     rw [pw_vals.2.1] at h2; omega)
    have Y1 := hid (show val y ≤ 9223372036854775807 by
     have h1 := val_lt cy.out.1
     have h2 := pw_mono (show y.length ≤ 2 by rw [hl.out]; omega)
     rw [pw_vals.2.1] at h2; omega)
    have hn2 := hid (show n ≤ 2 by omega)
    have hm2 := hid (show m ≤ 2 by omega)
    clear hsm
    go_wp2_with fail
    refine (spec_NatToInt A n c x bs wr hx.out cx.out hn2.out).mono ?_
    rintro _ w3 ⟨rfl,hb3⟩
    have hb3' := Below.next hb hb3
    go_wp2_with fail
    refine (spec_NatToInt B m d y ds w3 (Sl.below hy.out hb3) cy.out hm2.out).mono ?_
    rintro _ w4 ⟨rfl,hb4⟩
    have hb4' := Below.next hb3' hb4
    go_wp2_with fail
    refine (spec_l02Plain (val x) (val y) w4 X0.out Y0.out X1.out Y1.out).mono ?_
    rintro _ w5 ⟨v5,rfl,hown5,hb5⟩
    have hb5' := Below.next hb4' hb5
    rw [hg.out] at hown5
    go_wp2
    go_ret
    exact gives_row (ownsRow_base hown5 hb4'.size) rfl (dig_can _).1.i64 hb5'
   ·have rl := hid (show (dig (val x % val y).toNat).length ≤ m from by
     refine dig_len ?_
     have h1 := Int.emod_lt_of_pos (val x) hyp.out
     have h2 := Int.emod_nonneg (val x) (show val y ≠ 0 by have := hyp.out; omega)
     have h3 := val_lt cy.out.1
     rw [hl.out] at h3
     omega)
    have r1 := hid (show Int.gcd (val y) (val (dig (val x % val y).toNat)) = Int.gcd (val xs) (val ys) by
     rw [val_dig,Int.toNat_of_nonneg (Int.emod_nonneg _ (by have := hyp.out; omega)),gcd_step]; exact hg.out)
    have r2 := hid (show val (dig (val x % val y).toNat) = ((val x % val y).toNat : Int) from val_dig _)
    have rm := hid (show (val x % val y).toNat < gk by
     have h1 := Int.emod_lt_of_pos (val x) hyp.out
     have h2 := hk.out
     have h3 := hyp.out
     omega)
    have CR := hid (dig_can (val x % val y).toNat)
    rcases Nat.lt_or_ge n 3 with h3 | h3
    ·have hn3 : (n : Int) < 3 := by omega
     have hm3 : ¬ ((m : Int) < 3) := by omega
     clear hsm h3
     go_wp2_with fail
     refine (spec_l02Div A B n m c d x y bs ds wr hx.out hy.out cx.out cy.out hn hm0 hm).mono ?_
     rintro _ w1 ⟨A1,n1,c1,b1,A2,n2,c2,b2,rfl,hq,hr,ho,hb1⟩
     have HR := hid hr
     have HO := hid (Own.older (Own.right_ ho) hb.size)
     have HY1 := hid (Sl.below hy.out hb1)
     have OY1 := hid (Own.below oy.out hb1)
     have hb2 : Below w.heap.size w w1 := Below.next hb hb1
     have rn := hid (show n2 ≤ 65536 from Nat.le_trans (by rw [← hr.1]; exact rl.out) hm)
     clear hq hr ho hb hb1
     go_wp2_with fail
     go_roundg (val x % val y).toNat
     case measure => exact rm.out
     case rel => exact ⟨B,A2,m,n2,d,c2,y, _,ds,b2,rfl,rfl,HY1,OY1,HR,HO,cy,CR,hm,rn.out,r1,r2,hb2⟩
    ·have hn3 : ¬ ((n : Int) < 3) := by omega
     clear hsm h3
     go_wp2_with fail
     refine (spec_l02Div A B n m c d x y bs ds wr hx.out hy.out cx.out cy.out hn hm0 hm).mono ?_
     rintro _ w1 ⟨A1,n1,c1,b1,A2,n2,c2,b2,rfl,hq,hr,ho,hb1⟩
     have HR := hid hr
     have HO := hid (Own.older (Own.right_ ho) hb.size)
     have HY1 := hid (Sl.below hy.out hb1)
     have OY1 := hid (Own.below oy.out hb1)
     have hb2 : Below w.heap.size w w1 := Below.next hb hb1
     have rn := hid (show n2 ≤ 65536 from Nat.le_trans (by rw [← hr.1]; exact rl.out) hm)
     clear hq hr ho hb hb1
     go_wp2_with fail
     go_roundg (val x % val y).toNat
     case measure => exact rm.out
     case rel => exact ⟨B,A2,m,n2,d,c2,y, _,ds,b2,rfl,rfl,HY1,OY1,HR,HO,cy,CR,hm,rn.out,r1,r2,hb2⟩
  ·obtain rfl : m = 0 := by omega
   have e := hid (show x = dig (Int.gcd (val xs) (val ys)) by
    rw [← hg.out,show val y = 0 by rw [List.eq_nil_of_length_eq_zero hl.out]; rfl,Int.gcd_zero_right]
    exact (cx.out.dig_natAbs).symm)
   go_wp2
   go_ret
   rw [← e.out]
   exact ⟨A,n,c,bs,rfl,hx.out,ox.out,hb⟩

set_option maxHeartbeats 1000000 in
theorem spec_BigIntOk (v : Value) (x : TBigInt) (bs : List Nat) (w : World) (hx : Agg w v x bs) :
  Calls Tryz.prog 161 #[v] w (Gives w (.bool (bigOkB x))) := by
 obtain ⟨A1,n1,c1,s1,rfl,rfl,hs1⟩ := TBigInt.agg hx
 have H1 := hid hs1
 clear hs1 hx
 have E := hid (show bigOkB x = (natOkB x.mag && (!x.neg || decide (0 < n1))) by
  unfold bigOkB
  congr 1; congr 1
  rw [← H1.out.1]
  cases x.mag <;> simp)
 cases hn : natOkB x.mag
 ·go_enter Tryz.func161,Tryz.ntmps161
  go_wp2_with fail
  have C := spec_NatOk A1 n1 c1 x.mag bs (w.alloc (.cells #[.bool x.neg, .slice A1 n1 c1] 30)) (Sl.below H1.out Below.go)
  rw [hn] at C
  refine C.mono ?_
  clear C
  rintro _ w1 ⟨rfl,hb1⟩
  obtain ⟨hc_w1,hf_w1⟩ := bcell hb1
  have hz0_w1 : w.heap.size < w1.heap.size := by have := hb1.size; (try simp at this); omega
  go_wp2
  go_ret
  exact ⟨ret_bool (by rw [E.out,hn]; rfl),Below.go⟩
 ·have HN := hid hn
  clear hn
  rw [HN.out,Bool.true_and] at E
  cases hg : x.neg
  ·have E2 := hid (show true = bigOkB x by rw [E.out,hg]; rfl)
   clear E
   go_enter Tryz.func161,Tryz.ntmps161
   go_wp2_with fail
   have C := spec_NatOk A1 n1 c1 x.mag bs (w.alloc (.cells #[.bool false, .slice A1 n1 c1] 30)) (Sl.below H1.out Below.go)
   rw [HN.out] at C
   refine C.mono ?_
   clear C
   rintro _ w1 ⟨rfl,hb1⟩
   obtain ⟨hc_w1,hf_w1⟩ := bcell hb1
   have hz0_w1 : w.heap.size < w1.heap.size := by have := hb1.size; (try simp at this); omega
   go_wp2
   go_ret
   exact ⟨ret_bool E2.out,Below.go⟩
  ·have E2 := hid (show decide (0 < n1) = bigOkB x by rw [E.out,hg]; rfl)
   clear E
   go_enter Tryz.func161,Tryz.ntmps161
   go_wp2_with fail
   have C := spec_NatOk A1 n1 c1 x.mag bs (w.alloc (.cells #[.bool true, .slice A1 n1 c1] 30)) (Sl.below H1.out Below.go)
   rw [HN.out] at C
   refine C.mono ?_
   clear C
   rintro _ w1 ⟨rfl,hb1⟩
   obtain ⟨hc_w1,hf_w1⟩ := bcell hb1
   have hz0_w1 : w.heap.size < w1.heap.size := by have := hb1.size; (try simp at this); omega
   go_wp2
   go_ret
   exact ⟨ret_bool E2.out,Below.go⟩

set_option maxHeartbeats 2000000 in
set_option maxRecDepth 10000 in
theorem spec_l03Make (neg : Bool) (A : Option Addr) (n c : Nat) (xs : List Int) (bs : List Nat) (w : World) (hx : Sl w A n c xs bs) (hcx : XN.Can xs) (hn : n ≤ 60) :
  Calls Tryz.prog 167 #[.bool neg, .slice A n c] w (GivesAgg w (⟨neg && decide (0 < n),xs⟩ : TBigInt)) := by
 obtain ⟨i0,hi,hz0,hz1,hz2⟩ := info_parts infoI
 have HX := hid hx
 have hn' := hid (Nat.le_trans hn (show 60 ≤ 1048576 by decide))
 have TL := hid (show (trim xs).length = n by rw [hcx.trim_eq]; exact hx.1)
 clear hx hcx
 cases neg
 ·show Calls _ _ _ w (GivesAgg w (⟨false,xs⟩ : TBigInt))
  go_enter Tryz.func167,Tryz.ntmps167
  go_wp2_with fail
  have C := spec_l02Cap A n c xs bs (w.alloc (.cells #[.bool false, .slice none 0 0] 30)) (Sl.below HX.out Below.go) (by rw [TL.out]; exact hn)
  rw [TL.out] at C
  refine C.mono ?_
  clear C
  rintro _ w1 ⟨rfl,hb1⟩
  obtain ⟨hc_w1,hf_w1⟩ := bcell hb1
  have hz0_w1 : w.heap.size < w1.heap.size := by have := hb1.size; (try simp at this); omega
  have HX1 := hid (Sl.below (Sl.below HX.out (Below.box (.cells #[.bool false, .slice none 0 0] 30))) hb1)
  have hzz : w.heap.size < w1.heap.size + 1 := by omega
  have hsz : w.heap.size + 1 ≤ w1.heap.size := by have := hb1.size; simp at this; omega
  go_wp2_with (at_builtin; (refine wpList_clone rfl _ _ 28 rfl 3 i0 Tryz.underlying28 hi hz0 hz1 hz2 _ rfl A n c xs bs rfl (Sl.below HX1.out Below.go) hn'.out ?_); intro A3 c3 s3 w3 hs3 ho3 hb3; obtain ⟨hc_w3,hf_w3⟩ := bcell hb3; have hz0_w3 : w.heap.size < w3.heap.size := by (have h := hb3.size; simp at h; omega))
  have HS3 := hid hs3
  have HO3 := hid ho3
  clear hs3 ho3
  refine bodyPost_ret (v := .agg #[.bool false, .slice A3 n c3]) (by simp [results,Tryz.results167,go_sem, *]) rfl ?_
  have f := fun (W : World) (ha : Above (w.heap.size + 1) w3 W) => fin_sl (w := w) HS3.out HO3.out (by simp; omega) (by simp; omega) ha
  refine ⟨_,s3,rfl,TBigInt.mkAgg (x := ⟨false,xs⟩) (f _ ?_).1,(f _ ?_).2, ?_⟩
  ·exact Above.go
  ·exact Above.go
  ·exact Below.go
 ·rcases Nat.eq_zero_or_pos n with h0 | h0
  ·subst h0
   show Calls _ _ _ w (GivesAgg w (⟨false,xs⟩ : TBigInt))
   go_enter Tryz.func167,Tryz.ntmps167
   go_wp2_with fail
   have C := spec_l02Cap A 0 c xs bs (w.alloc (.cells #[.bool false, .slice none 0 0] 30)) (Sl.below HX.out Below.go) (by rw [TL.out]; exact hn)
   rw [TL.out] at C
   refine C.mono ?_
   clear C
   rintro _ w1 ⟨rfl,hb1⟩
   obtain ⟨hc_w1,hf_w1⟩ := bcell hb1
   have hz0_w1 : w.heap.size < w1.heap.size := by have := hb1.size; (try simp at this); omega
   have HX1 := hid (Sl.below (Sl.below HX.out (Below.box (.cells #[.bool false, .slice none 0 0] 30))) hb1)
   have hzz : w.heap.size < w1.heap.size + 1 := by omega
   have hsz : w.heap.size + 1 ≤ w1.heap.size := by have := hb1.size; simp at this; omega
   go_wp2_with (at_builtin; (refine wpList_clone rfl _ _ 28 rfl 3 i0 Tryz.underlying28 hi hz0 hz1 hz2 _ rfl A 0 c xs bs rfl (Sl.below HX1.out Below.go) hn'.out ?_); intro A3 c3 s3 w3 hs3 ho3 hb3; obtain ⟨hc_w3,hf_w3⟩ := bcell hb3; have hz0_w3 : w.heap.size < w3.heap.size := by (have h := hb3.size; simp at h; omega))
   have HS3 := hid hs3
   have HO3 := hid ho3
   clear hs3 ho3
   refine bodyPost_ret (v := .agg #[.bool false, .slice A3 0 c3]) (by simp [results,Tryz.results167,go_sem, *]) rfl ?_
   have f := fun (W : World) (ha : Above (w.heap.size + 1) w3 W) => fin_sl (w := w) HS3.out HO3.out (by simp; omega) (by simp; omega) ha
   refine ⟨_,s3,rfl,TBigInt.mkAgg (x := ⟨false,xs⟩) (f _ ?_).1,(f _ ?_).2, ?_⟩
   ·exact Above.go
   ·exact Above.go
   ·exact Below.go
  ·have e : (true && decide (0 < n)) = true := by simp [h0]
   rw [e]
   go_enter Tryz.func167,Tryz.ntmps167
   go_wp2_with fail
   have C := spec_l02Cap A n c xs bs (w.alloc (.cells #[.bool false, .slice none 0 0] 30)) (Sl.below HX.out Below.go) (by rw [TL.out]; exact hn)
   rw [TL.out] at C
   refine C.mono ?_
   clear C
   rintro _ w1 ⟨rfl,hb1⟩
   obtain ⟨hc_w1,hf_w1⟩ := bcell hb1
   have hz0_w1 : w.heap.size < w1.heap.size := by have := hb1.size; (try simp at this); omega
   have HX1 := hid (Sl.below (Sl.below HX.out (Below.box (.cells #[.bool false, .slice none 0 0] 30))) hb1)
   have hzz : w.heap.size < w1.heap.size + 1 := by omega
   have hsz : w.heap.size + 1 ≤ w1.heap.size := by have := hb1.size; simp at this; omega
   go_wp2_with (at_builtin; (refine wpList_clone rfl _ _ 28 rfl 3 i0 Tryz.underlying28 hi hz0 hz1 hz2 _ rfl A n c xs bs rfl (Sl.below HX1.out Below.go) hn'.out ?_); intro A3 c3 s3 w3 hs3 ho3 hb3; obtain ⟨hc_w3,hf_w3⟩ := bcell hb3; have hz0_w3 : w.heap.size < w3.heap.size := by (have h := hb3.size; simp at h; omega))
   have HS3 := hid hs3
   have HO3 := hid ho3
   clear hs3 ho3
   refine bodyPost_ret (v := .agg #[.bool true, .slice A3 n c3]) (by simp [results,Tryz.results167,go_sem, *]) rfl ?_
   have f := fun (W : World) (ha : Above (w.heap.size + 1) w3 W) => fin_sl (w := w) HS3.out HO3.out (by simp; omega) (by simp; omega) ha
   refine ⟨_,s3,rfl,TBigInt.mkAgg (x := ⟨true,xs⟩) (f _ ?_).1,(f _ ?_).2, ?_⟩
   ·exact Above.go
   ·exact Above.go
   ·exact Below.go

set_option maxHeartbeats 1000000 in
theorem spec_l04One (A : Option Addr) (n c : Nat) (xs : List Int) (bs : List Nat) (w : World) (hx : Sl w A n c xs bs) :
  Calls Tryz.prog 163 #[.slice A n c] w (Gives w (.bool (decide (xs = [1])))) := by
 have HL := hid hx.1
 by_cases h1 : n = 1
 ·subst h1
  obtain ⟨b,off,x,rfl,hbl,hx1,hI,hc⟩ := Sl.getInt hx (k := 0) (by decide)
  simp only [Nat.add_zero] at hc
  have e := hid (show (x == 1) = decide (xs = [1]) by
   have h := HL.out
   match xs,h with
   | [y], _ => simp at hx1; subst hx1; simp; rfl)
  clear hx hx1
  go_enter Tryz.func163,Tryz.ntmps163
  go_wp2
  go_ret
  exact ⟨ret_bool e.out,Below.go⟩
 ·have e := hid (show decide (xs = [1]) = false by
   simp; intro h; apply h1; rw [← HL.out,h]; rfl)
  have hn : ((n : Int) == 1) = false := by simp; omega
  clear hx h1
  go_enter Tryz.func163,Tryz.ntmps163
  go_wp2
  go_ret
  exact ⟨ret_bool e.out.symm,Below.go⟩

theorem enc_neg (N : Nat) : (⟨true && decide (0 < (dig N).length),dig N⟩ : TBigInt) = encI (-(N : Int)) := by
 obtain ⟨h1,h2⟩ := enc_of (neg := true) (N := N) (v := -(N : Int)) (by simp)
 rw [← h2, ← h1]
theorem enc_pos (N : Nat) : (⟨false && decide (0 < (dig N).length),dig N⟩ : TBigInt) = encI (N : Int) := by
 obtain ⟨h1,h2⟩ := enc_of (neg := false) (N := N) (v := (N : Int)) (by simp)
 rw [← h2, ← h1]

theorem min_can : XN.Can [854775808,223372036,9] := ⟨Lims.cons (by decide) (by decide) (Lims.cons (by decide) (by decide) (Lims.one (by decide) (by decide))),by decide⟩
theorem enc_min : (⟨true && decide (0 < 3), [854775808,223372036,9]⟩ : TBigInt) = encI (-9223372036854775808) := by
 have h : val [854775808,223372036,9] = 9223372036854775808 := by decide
 generalize hN : (9223372036854775808 : Nat) = N
 have hv : val [854775808,223372036,9] = (N : Int) := by rw [h, ← hN]; rfl
 have e : [854775808,223372036,9] = dig N := min_can.of_val hv
 have e2 : (-9223372036854775808 : Int) = -(N : Int) := by rw [← hN]; rfl
 rw [e2, ← enc_neg, ← e]; rfl

set_option maxHeartbeats 1000000 in
set_option maxRecDepth 10000 in
theorem spec_BigIntOf (N : Int) (w : World) (h : I64 N) : Calls Tryz.prog 124 #[.int .i64 N] w (GivesAgg w (encI N)) := by
 have h0 := h.1
 have h1 := h.2
 clear h
 rcases Int.lt_or_le N 0 with hN | hN
 ·by_cases hm : N = -9223372036854775808
  ·subst hm
   have LC := hid min_can
   go_enter Tryz.func124,Tryz.ntmps124
   go_wp2_with fail
   obtain ⟨ls,hls⟩ := row_sl (row_lit (w.alloc (.cells #[.bool false, .slice none 0 0] 30)) [854775808,223372036,9] (by simp [maxLen])) (fun x hx => LC.out.1.i64 x hx)
   rw [show (w.alloc (.cells #[.bool false, .slice none 0 0] 30)).heap.size = w.heap.size + 1 by simp] at hls
   have C := spec_l03Make true (some ⟨w.heap.size + 1,0,none⟩) 3 3 _ ls ((w.alloc (.cells #[.bool false, .slice none 0 0] 30)).alloc (.cells #[.int .i64 854775808, .int .i64 223372036, .int .i64 9] 3)) hls LC.out (by decide)
   have E := hid enc_min
   refine C.mono ?_
   clear C
   rintro _ w2 ⟨v2,s2,rfl,ha2,ho2,hb2⟩
   rw [E.out] at ha2
   obtain ⟨A2,n2,c2, _,rfl,rfl,hs2⟩ := TBigInt.agg ha2
   have HS2 := hid hs2
   have HO2 := hid ho2
   clear hs2 ho2 ha2
   obtain ⟨hc_w2,hf_w2⟩ := bcell hb2
   have hsz2 := hid (show w.heap.size + 1 ≤ ((w.alloc (.cells #[.bool false, .slice none 0 0] 30)).alloc (.cells #[.int .i64 854775808, .int .i64 223372036, .int .i64 9] 3)).heap.size by simp)
   have hz0_w2 : w.heap.size < w2.heap.size := by have := hb2.size; have := hsz2.out; omega
   have hzz1 : w.heap.size < w.heap.size + 1 + 1 := by omega
   go_wp2
   refine bodyPost_ret (v := .agg #[.bool (encI (-9223372036854775808)).neg, .slice A2 n2 c2]) (by simp [results,Tryz.results124,go_sem, *]) rfl ?_
   have f := fun (W : World) (ha : Above (w.heap.size + 1) w2 W) => fin_sl (w := w) HS2.out HO2.out (by have := hsz2.out; omega) hsz2.out ha
   refine ⟨_,s2,rfl,TBigInt.mkAgg (f _ ?_).1,(f _ ?_).2, ?_⟩
   ·exact Above.go
   ·exact Above.go
   ·exact Below.go
  ·have hz : (N == -9223372036854775808) = false := by simp; exact hm
   have hm' : -9223372036854775807 ≤ N := by omega
   have hn9 := hid (show -N ≤ 9223372036854775807 by omega)
   have hdl := hid (show (dig (-N).toNat).length ≤ 60 from Nat.le_trans (dig_len (k := 3) (by rw [pw_vals.2.2]; omega)) (by decide))
   have E := hid (show encI (-((-N).toNat : Int)) = encI N by rw [Int.toNat_of_nonneg (by omega),Int.neg_neg])
   go_enter Tryz.func124,Tryz.ntmps124
   go_wp2_with fail
   refine (spec_NatOf (-N) (w.alloc (.cells #[.bool false, .slice none 0 0] 30)) hn9.out).mono ?_
   rintro _ w1 ⟨A1,n1,c1,s1,rfl,hs1,ho1,hb1⟩
   have EL := hid hs1.1
   have HS1 := hid hs1
   clear hs1 ho1
   obtain ⟨hc_w1,hf_w1⟩ := bcell hb1
   have hz0_w1 : w.heap.size < w1.heap.size := by have := hb1.size; (try simp at this); omega
   go_wp2_with fail
   have C := spec_l03Make true A1 n1 c1 _ s1 w1 HS1.out (dig_can _) (by rw [← EL.out]; exact hdl.out)
   refine C.mono ?_
   clear C
   rintro _ w2 ⟨v2,s2,rfl,ha2,ho2,hb2⟩
   rw [← EL.out,enc_neg,E.out] at ha2
   obtain ⟨A2,n2,c2, _,rfl,rfl,hs2⟩ := TBigInt.agg ha2
   have HS2 := hid hs2
   have HO2 := hid ho2
   clear hs2 ho2 ha2
   obtain ⟨hc_w2,hf_w2⟩ := bcell hb2
   have hsz2 := hid (show w.heap.size + 1 ≤ w1.heap.size by omega)
   have hz0_w2 : w.heap.size < w2.heap.size := by have := hb2.size; have := hsz2.out; omega
   have hzz1 : w.heap.size < w.heap.size + 1 + 1 := by omega
   go_wp2
   refine bodyPost_ret (v := .agg #[.bool (encI N).neg, .slice A2 n2 c2]) (by simp [results,Tryz.results124,go_sem, *]) rfl ?_
   have f := fun (W : World) (ha : Above (w.heap.size + 1) w2 W) => fin_sl (w := w) HS2.out HO2.out (by have := hsz2.out; omega) hsz2.out ha
   refine ⟨_,s2,rfl,TBigInt.mkAgg (f _ ?_).1,(f _ ?_).2, ?_⟩
   ·exact Above.go
   ·exact Above.go
   ·exact Below.go
 ·have hz : (N == -9223372036854775808) = false := by simp; omega
  have hN' : ¬ (N < 0) := by omega
  have hn9 := hid (show N ≤ 9223372036854775807 by omega)
  have hdl := hid (show (dig N.toNat).length ≤ 60 from Nat.le_trans (dig_len (k := 3) (by rw [pw_vals.2.2]; omega)) (by decide))
  have E := hid (show encI ((N.toNat : Nat) : Int) = encI N by rw [Int.toNat_of_nonneg hN])
  go_enter Tryz.func124,Tryz.ntmps124
  go_wp2_with fail
  refine (spec_NatOf N (w.alloc (.cells #[.bool false, .slice none 0 0] 30)) hn9.out).mono ?_
  rintro _ w1 ⟨A1,n1,c1,s1,rfl,hs1,ho1,hb1⟩
  have EL := hid hs1.1
  have HS1 := hid hs1
  clear hs1 ho1
  obtain ⟨hc_w1,hf_w1⟩ := bcell hb1
  have hz0_w1 : w.heap.size < w1.heap.size := by have := hb1.size; (try simp at this); omega
  go_wp2_with fail
  have C := spec_l03Make false A1 n1 c1 _ s1 w1 HS1.out (dig_can _) (by rw [← EL.out]; exact hdl.out)
  refine C.mono ?_
  clear C
  rintro _ w2 ⟨v2,s2,rfl,ha2,ho2,hb2⟩
  rw [← EL.out,enc_pos,E.out] at ha2
  obtain ⟨A2,n2,c2, _,rfl,rfl,hs2⟩ := TBigInt.agg ha2
  have HS2 := hid hs2
  have HO2 := hid ho2
  clear hs2 ho2 ha2
  obtain ⟨hc_w2,hf_w2⟩ := bcell hb2
  have hsz2 := hid (show w.heap.size + 1 ≤ w1.heap.size by omega)
  have hz0_w2 : w.heap.size < w2.heap.size := by have := hb2.size; have := hsz2.out; omega
  have hzz1 : w.heap.size < w.heap.size + 1 + 1 := by omega
  go_wp2
  refine bodyPost_ret (v := .agg #[.bool (encI N).neg, .slice A2 n2 c2]) (by simp [results,Tryz.results124,go_sem, *]) rfl ?_
  have f := fun (W : World) (ha : Above (w.heap.size + 1) w2 W) => fin_sl (w := w) HS2.out HO2.out (by have := hsz2.out; omega) hsz2.out ha
  refine ⟨_,s2,rfl,TBigInt.mkAgg (f _ ?_).1,(f _ ?_).2, ?_⟩
  ·exact Above.go
  ·exact Above.go
  ·exact Below.go

def sval (neg : Bool) (xs : List Int) : Int := if neg then -val xs else val xs
theorem low_mk {neg : Bool} {xs : List Int} {D : Int} (hc : XN.Can xs) (hD : 0 < D) :
  mkR (sval neg xs) D = if (dig (val xs / (Int.gcd (val xs) D : Nat)).toNat).length ≤ 24 ∧ (dig (D / (Int.gcd (val xs) D : Nat)).toNat).length ≤ 24 then
   ⟨⟨neg && decide (0 < (dig (val xs / (Int.gcd (val xs) D : Nat)).toNat).length),dig (val xs / (Int.gcd (val xs) D : Nat)).toNat⟩,dig (D / (Int.gcd (val xs) D : Nat)).toNat⟩ else zeroR := by
 have hg := gcd_pos_right (a := val xs) hD
 have e1 : sval neg xs = ival ⟨neg && decide (xs ≠ []),xs⟩ := by
  unfold sval ival
  by_cases h : xs = []
  ·subst h; cases neg <;> simp [val]
  ·cases neg <;> simp [h]
 have e2 : (neg && decide (0 < (dig (val xs / (Int.gcd (val xs) D : Nat)).toNat).length)) = (neg && decide (xs ≠ [])) := by
  congr 1
  by_cases h : xs = []
  ·subst h
   have : val ([] : List Int) = 0 := rfl
   rw [this,Int.zero_ediv]; simp; rfl
  ·have hp := hc.pos h
   have hq : 0 < val xs / (Int.gcd (val xs) D : Nat) := Int.ediv_pos_of_pos_of_dvd hp (by omega) (Int.gcd_dvd_left _ _)
   have : dig (val xs / (Int.gcd (val xs) D : Nat)).toNat ≠ [] := by rw [Ne,dig_nil]; omega
   simp [h,List.length_pos_iff.2 this]
 rw [e1,red_mk (x := ⟨neg && decide (xs ≠ []),xs⟩) hc (by intro h; simp at h; exact h.2) hD,e2]

set_option maxHeartbeats 4000000 in
set_option maxRecDepth 10000 in
theorem spec_l04Low (neg : Bool) (A B : Option Addr) (n m c d : Nat) (xs ys : List Int) (bs ds : List Nat) (w : World) (hx : Sl w A n c xs bs) (hy : Sl w B m d ys ds) (hcx : XN.Can xs) (hcy : XN.Can ys) (hm0 : 0 < m) (hn : n ≤ 65536) (hm : m ≤ 65536) :
  Calls Tryz.prog 166 #[.bool neg, .slice A n c, .slice B m d] w (GivesAgg w (mkR (sval neg xs) (val ys))) := by
 obtain ⟨i0,hi,hz0,hz1,hz2⟩ := info_parts infoI
 have HX := hid hx
 have HY := hid hy
 have CX := hid hcx
 have CY := hid hcy
 have TX := hid (show (trim xs).length = n by rw [hcx.trim_eq]; exact hx.1)
 have TY := hid (show (trim ys).length = m by rw [hcy.trim_eq]; exact hy.1)
 have HD := hid (hcy.pos (by intro e; rw [← hy.1,e] at hm0; simp at hm0))
 have MK := hid (low_mk (neg := neg) hcx HD.out)
 have PX := hid (val_nonneg hcx.1)
 have HG := hid (gcd_pos_right (a := val xs) HD.out)
 have hz : ((m : Int) == 0) = false := by simp; omega
 clear hx hy hcx hcy
 go_enter Tryz.func166,Tryz.ntmps166
 go_wp2_with fail
 have C := spec_l02Trim A n c xs bs (w.alloc (.cells #[.bool false, .slice none 0 0, .slice none 0 0] 32)) (Sl.below HX.out Below.go)
 rw [TX.out] at C
 refine C.mono ?_
 clear C
 rintro _ w1 ⟨rfl,hb1⟩
 go_wp2_with fail
 have C := spec_l02Trim B m d ys ds w1 (Sl.below HY.out (Below.next Below.go hb1))
 rw [TY.out] at C
 refine C.mono ?_
 clear C
 rintro _ w2 ⟨rfl,hb2⟩
 have bb2 := Below.next hb1 hb2
 have HX2 := hid (Sl.below (Sl.below HX.out (Below.box (.cells #[.bool false, .slice none 0 0, .slice none 0 0] 32))) bb2)
 have HY2 := hid (Sl.below (Sl.below HY.out (Below.box (.cells #[.bool false, .slice none 0 0, .slice none 0 0] 32))) bb2)
 clear hb1 hb2 HX HY
 go_wp2_with fail
 obtain ⟨b1,hb1⟩ : ∃ b,b = decide (ys = [1]) := ⟨_,rfl⟩
 have C := spec_l04One B m d ys ds w2 HY2.out
 rw [← hb1] at C
 have HB1 := hid hb1
 clear hb1
 refine C.mono ?_
 clear C
 rintro _ w3 ⟨rfl,hb3⟩
 have HX3 := hid (Sl.below HX2.out hb3)
 have HY3 := hid (Sl.below HY2.out hb3)
 have bb3 := Below.next bb2 hb3
 clear HX2 HY2 bb2 hb3
 go_upto_if 20 with fail
 go_cut [7,8] (fun a b wx => ∃ (A7 B8 : Option Addr) (n7 c7 m8 d8 : Nat) (s7 s8 : List Nat),a = .slice A7 n7 c7 ∧ b = .slice B8 m8 d8 ∧ Hid (Sl wx A7 n7 c7 (dig (val xs / (Int.gcd (val xs) (val ys) : Nat)).toNat) s7) ∧ Hid (Sl wx B8 m8 d8 (dig (val ys / (Int.gcd (val xs) (val ys) : Nat)).toNat) s8) ∧ Below (w.alloc (.cells #[.bool false, .slice none 0 0, .slice none 0 0] 32)).heap.size (w.alloc (.cells #[.bool false, .slice none 0 0, .slice none 0 0] 32)) wx)
 case first =>
  by_cases hg1 : Int.gcd (val xs) (val ys) = 1
  ·have EX := hid (show dig (val xs / (Int.gcd (val xs) (val ys) : Nat)).toNat = xs by rw [hg1,Int.natCast_one,Int.ediv_one]; exact CX.out.eq_dig.symm)
   have EY := hid (show dig (val ys / (Int.gcd (val xs) (val ys) : Nat)).toNat = ys by rw [hg1,Int.natCast_one,Int.ediv_one]; exact CY.out.eq_dig.symm)
   have HG1 := hid hg1
   clear hg1
   cases b1
   rotate_left
   ·go_wp2_with fail
    go_meet
    exact ⟨A,B,n,c,m,d,bs,ds,rfl,rfl,by rw [EX.out]; exact HX3,by rw [EY.out]; exact HY3,bb3⟩
   ·have G1 := hid (show decide (dig (Int.gcd (val xs) (val ys)) = [1]) = true by rw [HG1.out]; rfl)
    go_wp2_with fail
    refine (spec_l02Gcd A B n m c d xs ys bs ds w3 HX3.out HY3.out CX.out CY.out hn hm).mono ?_
    rintro _ w4 ⟨A4,n4,c4,s4,rfl,hs4,ho4,hb4⟩
    have HS4 := hid hs4
    have HX4 := hid (Sl.below HX3.out hb4)
    have HY4 := hid (Sl.below HY3.out hb4)
    have bb4 := Below.next bb3 hb4
    clear hs4 ho4 hb4
    go_wp2_with fail
    have C := spec_l04One A4 n4 c4 _ s4 w4 HS4.out
    rw [G1.out] at C
    refine C.mono ?_
    clear C
    rintro _ w5 ⟨rfl,hb5⟩
    have HX5 := hid (Sl.below HX4.out hb5)
    have HY5 := hid (Sl.below HY4.out hb5)
    have bb5 := Below.next bb4 hb5
    go_wp2_with fail
    go_meet
    exact ⟨A,B,n,c,m,d,bs,ds,rfl,rfl,by rw [EX.out]; exact HX5,by rw [EY.out]; exact HY5,bb5⟩
  ·have Y1 : b1 = false := by
    rw [HB1.out]; simp; intro h; apply hg1; rw [h]; show Int.gcd (val xs) 1 = 1; simp
   subst Y1
   have GV := hid (show val (dig (Int.gcd (val xs) (val ys))) = (Int.gcd (val xs) (val ys) : Nat) from val_dig _)
   have G1 := hid (show decide (dig (Int.gcd (val xs) (val ys)) = [1]) = false by
    simp; intro h; apply hg1
    have := GV.out
    rw [h] at this
    have h2 : val [1] = 1 := rfl
    omega)
   have GL := hid (show (dig (Int.gcd (val xs) (val ys))).length ≤ 65536 from Nat.le_trans (dig_len (k := m) (by
    have h1 := Int.le_of_dvd HD.out (Int.gcd_dvd_right (val xs) (val ys))
    have h2 := val_lt CY.out.1
    rw [show ys.length = m by rw [← TY.out,CY.out.trim_eq]] at h2
    omega)) hm)
   have GN := hid (show 0 < (dig (Int.gcd (val xs) (val ys))).length from List.length_pos_iff.2 (by rw [Ne,dig_nil]; have := HG.out; omega))
   clear hg1
   go_wp2_with fail
   refine (spec_l02Gcd A B n m c d xs ys bs ds w3 HX3.out HY3.out CX.out CY.out hn hm).mono ?_
   rintro _ w4 ⟨A4,n4,c4,s4,rfl,hs4,ho4,hb4⟩
   have HS4 := hid hs4
   have n4l := hid (show n4 ≤ 65536 by rw [← hs4.1]; exact GL.out)
   have n4p := hid (show 0 < n4 by rw [← hs4.1]; exact GN.out)
   have HX4 := hid (Sl.below HX3.out hb4)
   have HY4 := hid (Sl.below HY3.out hb4)
   have bb4 := Below.next bb3 hb4
   clear hs4 ho4 hb4
   go_wp2_with fail
   have C := spec_l04One A4 n4 c4 _ s4 w4 HS4.out
   rw [G1.out] at C
   refine C.mono ?_
   clear C
   rintro _ w5 ⟨rfl,hb5⟩
   have HS5 := hid (Sl.below HS4.out hb5)
   have HX5 := hid (Sl.below HX4.out hb5)
   have HY5 := hid (Sl.below HY4.out hb5)
   have bb5 := Below.next bb4 hb5
   clear HX4 HY4 bb4 HS4 hb5
   go_wp2_with fail
   refine (spec_l02Div A A4 n n4 c c4 xs _ bs s4 w5 HX5.out HS5.out CX.out (dig_can _) hn n4p.out n4l.out).mono ?_
   rintro _ w6 ⟨Aq,nq,cq,sq,Ar,nr,cr,sr,rfl,hq,hr,ho,hb6⟩
   rw [GV.out] at hq
   have HQ6 := hid hq
   have HS6 := hid (Sl.below HS5.out hb6)
   have HY6 := hid (Sl.below HY5.out hb6)
   have bb6 := Below.next bb5 hb6
   clear hq hr ho hb6 HX5 HS5 HY5 bb5
   go_wp2_with fail
   refine (spec_l02Div B A4 m n4 d c4 ys _ ds s4 w6 HY6.out HS6.out CY.out (dig_can _) hm n4p.out n4l.out).mono ?_
   rintro _ w7 ⟨Ap,np,cp,sp,Ar2,nr2,cr2,sr2,rfl,hp,hr2,ho2,hb7⟩
   rw [GV.out] at hp
   have HP7 := hid hp
   have HQ7 := hid (Sl.below HQ6.out hb7)
   have bb7 := Below.next bb6 hb7
   clear hp hr2 ho2 hb7 HQ6 HS6 HY6 bb6
   go_wp2_with fail
   go_meet
   exact ⟨Aq,Ap,nq,cq,np,cp,sq,sp,rfl,rfl,HQ7,HP7,bb7⟩
 case rest =>
  obtain ⟨A7,B8,n7,c7,m8,d8,s7,s8,rfl,rfl,H7,H8,bb⟩ := hcut
  have CA := hid (dig_can (val xs / (Int.gcd (val xs) (val ys) : Nat)).toNat)
  have CB := hid (dig_can (val ys / (Int.gcd (val xs) (val ys) : Nat)).toNat)
  generalize dig (val xs / (Int.gcd (val xs) (val ys) : Nat)).toNat = X at *
  generalize dig (val ys / (Int.gcd (val xs) (val ys) : Nat)).toNat = Y at *
  have LA := hid (show X.length = n7 from H7.out.1)
  have LB := hid (show Y.length = m8 from H8.out.1)
  clear HG PX HD TX TY CX CY HB1 hz hn hm hm0
  obtain ⟨hc_wc,hf_wc⟩ := bcell bb
  have hz0_wc : w.heap.size < wc.heap.size := by have := bb.size; (try simp at this); omega
  rcases Nat.lt_or_ge 24 n7 with h7 | h7
  ·have E := hid (show mkR (sval neg xs) (val ys) = zeroR by rw [MK.out,LA.out,if_neg (by omega)])
   have z1 : (24 : Int) < n7 := by omega
   clear h7 MK
   go_wp2
   refine bodyPost_ret (v := .agg #[.bool false, .slice none 0 0, .slice none 0 0]) (by simp [results,Tryz.results166,go_sem, *]) rfl ?_
   rw [E.out]
   exact gives_zero Below.go
  rcases Nat.lt_or_ge 24 m8 with h8 | h8
  ·have E := hid (show mkR (sval neg xs) (val ys) = zeroR by rw [MK.out,LA.out,LB.out,if_neg (by omega)])
   have z1 : ¬ ((24 : Int) < n7) := by omega
   have z2 : (24 : Int) < m8 := by omega
   clear h7 h8 MK
   go_wp2
   refine bodyPost_ret (v := .agg #[.bool false, .slice none 0 0, .slice none 0 0]) (by simp [results,Tryz.results166,go_sem, *]) rfl ?_
   rw [E.out]
   exact gives_zero Below.go
  have E := hid (show mkR (sval neg xs) (val ys) = ⟨⟨neg && decide (0 < n7),X⟩,Y⟩ by rw [MK.out,LA.out,LB.out,if_pos ⟨h7,h8⟩])
  have z1 : ¬ ((24 : Int) < n7) := by omega
  have z2 : ¬ ((24 : Int) < m8) := by omega
  have h60 := hid (show n7 ≤ 60 by omega)
  have hm8 := hid (show m8 ≤ 1048576 by omega)
  clear h7 h8 MK
  go_wp2_with fail
  refine (spec_l03Make neg A7 n7 c7 X s7 wc H7.out CA.out h60.out).mono ?_
  rintro _ w3 ⟨v3,s3,rfl,ha3,ho3,hb3⟩
  obtain ⟨A9,n9,c9, _,rfl,rfl,hs9⟩ := TBigInt.agg ha3
  have HS9 := hid hs9
  have HO9 := hid ho3
  have H83 := hid (Sl.below H8.out hb3)
  have hwz := hid (show w.heap.size + 1 ≤ wc.heap.size by omega)
  clear hs9 ho3 ha3
  obtain ⟨hc_w3,hf_w3⟩ := bcell hb3
  have hz0_w3 : w.heap.size < w3.heap.size := by have := hb3.size; (try simp at this); omega
  have hzz : w.heap.size < w3.heap.size + 1 := by omega
  go_wp2_with (at_builtin; (refine wpList_clone rfl _ _ 28 rfl 3 i0 Tryz.underlying28 hi hz0 hz1 hz2 _ rfl B8 m8 d8 Y s8 rfl (Sl.below H83.out Below.go) hm8.out ?_); intro A4 c4 s4 w4 hs4 ho4 hb4; obtain ⟨hc_w4,hf_w4⟩ := bcell hb4; have hz0_w4 : w.heap.size < w4.heap.size := by (have h := hb4.size; simp at h; omega))
  have HS4 := hid hs4
  have HO4 := hid ho4
  have HS9' := hid (Sl.below (Sl.below HS9.out (show Below w3.heap.size w3 _ from Below.box (.cells #[] 3))) hb4)
  have HO9' := hid (Own.below (Own.below HO9.out (show Below w3.heap.size w3 _ from Below.box (.cells #[] 3))) hb4)
  have AP := hid (apart_of_lt (N := w3.heap.size) (b2 := s4) HS9.out.lt (fun b hb => by have := (HO4.out.2 b hb).1; simp at this; omega))
  refine bodyPost_ret (v := .agg #[.bool (neg && decide (0 < n7)), .slice A9 n9 c9, .slice A4 m8 c4]) (by simp [results,Tryz.results166,go_sem, *]) rfl ?_
  rw [E.out]
  have f1 := fun (W : World) (ha : Above (w.heap.size + 1) w4 W) => fin_sl (w := w) HS9'.out HO9'.out (by have := hwz.out; omega) hwz.out ha
  have f2 := fun (W : World) (ha : Above (w.heap.size + 1) w4 W) => fin_sl (w := w) HS4.out HO4.out (by simp; omega) (by simp; omega) ha
  refine rat_fin (x := ⟨⟨neg && decide (0 < n7),X⟩,Y⟩) (f1 _ ?_) (f2 _ ?_) AP.out ?_
  ·exact Above.go
  ·exact Above.go
  ·exact Below.go

theorem heap_alloc_old' (w : World) (o : Obj) (k : Nat) (h : k < w.heap.size) : (w.alloc o).heap[k]? = w.heap[k]? := (World.grownBy_alloc w o none).block k h (by simp)
theorem Above.alloc2 {lo : Nat} {w W : World} {o : Obj} (h : Above lo w W) (hs : W.heap.size = w.heap.size) : Above lo (w.alloc o) (W.alloc o) := by
 refine ⟨by simp [hs],fun b hb hl => ?_⟩
 simp at hl
 rcases Nat.lt_or_ge b w.heap.size with h1 | h1
 ·rw [heap_alloc_old' W o b (by omega),heap_alloc_old' w o b h1]; exact h.block b hb h1
 ·have e : b = w.heap.size := by omega
  have e1 := heap_alloc_new W o
  rw [hs] at e1
  rw [e,e1,heap_alloc_new w o]
theorem lit_sl (w : World) (xs : List Int) (hm : xs.length ≤ maxLen) (hi : ∀ x ∈ xs,I64 x) :
  ∃ bs,Sl (w.alloc (.cells (xs.map (.int .i64)).toArray 3)) (some ⟨w.heap.size,0,none⟩) xs.length xs.length xs bs ∧ Own w (w.alloc (.cells (xs.map (.int .i64)).toArray 3)) bs := by
 obtain ⟨A',n',c',bs',e',hs',ho', _⟩ := gives_row (row_lit w xs hm) rfl hi (Below.box _)
 injection e' with e1
 injection e1 with e2 e3 e4
 subst e2; subst e3; subst e4
 exact ⟨bs',hs',ho'⟩

set_option maxHeartbeats 1000000 in
set_option maxRecDepth 10000 in
theorem spec_RatFromInt (N : Int) (w : World) (h : I64 N) : Calls Tryz.prog 120 #[.int .i64 N] w (GivesAgg w (rint N)) := by
 go_enter Tryz.func120,Tryz.ntmps120
 go_wp2_with fail
 refine (spec_BigIntOf N _ h).mono ?_
 rintro _ w1 ⟨v1,s1,rfl,ha1,ho1,hb1⟩
 obtain ⟨A1,n1,c1, _,rfl,rfl,hs1⟩ := TBigInt.agg ha1
 have HS1 := hid hs1
 have HO1 := hid ho1
 clear hs1 ho1 ha1
 obtain ⟨hc_w1,hf_w1⟩ := bcell hb1
 have hz0_w1 : w.heap.size < w1.heap.size := by have := hb1.size; (try simp at this); omega
 have hwz := hid (show w.heap.size + 1 ≤ w1.heap.size by omega)
 have hzz : w.heap.size < w1.heap.size + 1 := by omega
 obtain ⟨s2,hs2,ho2⟩ := lit_sl w1 [1] (by simp [maxLen]) (by simp [I64])
 have HS2 := hid hs2
 have HO2 := hid ho2
 clear hs2 ho2
 go_wp2
 have AP := hid (apart_of_lt (N := w1.heap.size) (b2 := s2) HS1.out.lt (fun b hb => (HO2.out.2 b hb).1))
 refine bodyPost_ret (v := .agg #[.bool (encI N).neg, .slice A1 n1 c1, .slice (some ⟨w1.heap.size,0,none⟩) 1 1]) (by simp [results,Tryz.results120,go_sem, *]) rfl ?_
 have f1 := fun (W : World) (ha : Above (w.heap.size + 1) w1 W) => fin_sl (w := w) HS1.out HO1.out (by simp) (by simp) ha
 have f2 := fun (W : World) (ha : Above (w.heap.size + 1) (w1.alloc (.cells #[.int .i64 1] 3)) W) => fin_sl (w := w) (A := some ⟨w1.heap.size,0,none⟩) (n := 1) (c := 1) (xs := [(1 : Int)]) HS2.out HO2.out (by have := hwz.out; omega) hwz.out ha
 refine rat_fin (x := rint N) (f1 _ ?_) (f2 _ ?_) AP.out ?_
 ·exact Above.go
 ·refine Above.alloc2 ?_ (by simp)
  exact Above.go
 ·exact Below.go



end Go.Proofs.YtpfipnankjeokaaGreat.X
namespace Go.Proofs.YtpfipnankjeokaaGreat.X
open Go.RowKit Go.XB Go.XN

def MP.lit0 : MP := ⟨fun v bs _ => (∃ g,v = .slice (some ⟨g,0,none⟩) 0 0) ∧ bs = [],fun _ _ _ _ _ h => h⟩

attribute [local go_sem] fillBy opAt deps depOf Region.wanted yielded
attribute [local simp] deps depOf MP.eq MP.agg MP.sl MP.lit0 Facts

end Go.Proofs.YtpfipnankjeokaaGreat.X
namespace Go.Proofs.YtpfipnankjeokaaGreat.X
open Go.RowKit Go.XB Go.XN
attribute [local go_sem] fillBy opAt deps depOf Region.wanted yielded
attribute [local simp] deps depOf MP.eq MP.agg MP.sl Facts




end Go.Proofs.YtpfipnankjeokaaGreat.X
namespace Go.Proofs.YtpfipnankjeokaaGreat.X
open Go.RowKit Go.XB Go.XN
attribute [local go_sem] fillBy opAt deps depOf Region.wanted yielded
attribute [local simp] deps depOf MP.eq MP.agg MP.sl Facts

end Go.Proofs.YtpfipnankjeokaaGreat.X

namespace Go.XN
open Go.XB
def rsum (xs : List TRat) : TRat := xs.foldl radd (rint 0)
end Go.XN
namespace Go.XB
end Go.XB
namespace Go.Proofs.YtpfipnankjeokaaGreat.X
open Go.RowKit Go.XB Go.XN
attribute [local go_sem] fillBy opAt deps depOf Region.wanted yielded
attribute [local simp] deps depOf MP.eq MP.agg MP.sl Facts

end Go.Proofs.YtpfipnankjeokaaGreat.X
namespace Go.Proofs.YtpfipnankjeokaaGreat.X
open Go.RowKit Go.XB Go.XN

theorem gcd_parts {A B : Int} (hB : 0 < B) : ∃ g a b : Int,0 < g ∧ A = g * a ∧ B = g * b ∧ 0 < b ∧ Int.gcd a b = 1 ∧ A / Int.gcd A B = a ∧ B / Int.gcd A B = b := by
 have hg : 0 < Int.gcd A B := Int.gcd_pos_of_ne_zero_right A (by omega)
 have hg' : (0 : Int) < Int.gcd A B := by omega
 have h1 := Int.mul_ediv_cancel' (Int.gcd_dvd_left (a := A) (b := B))
 have h2 := Int.mul_ediv_cancel' (Int.gcd_dvd_right (a := A) (b := B))
 refine ⟨Int.gcd A B,A / Int.gcd A B,B / Int.gcd A B,hg',h1.symm,h2.symm, ?_, ?_,rfl,rfl⟩
 ·exact Int.ediv_pos_of_pos_of_dvd hB (Int.le_of_lt hg') (Int.gcd_dvd_right _ _)
 ·exact Int.gcd_ediv_gcd_ediv_gcd hg

def Over (p : Int) (r : TRat) (u : Int) : Prop := numv r * p = denv r * u
end Go.Proofs.YtpfipnankjeokaaGreat.X
namespace Go.Proofs.YtpfipnankjeokaaGreat.X
open Go.RowKit Go.XB Go.XN

theorem mk_den {A B : Int} (hB : 0 < B) : (!(mkR A B).den.isEmpty) = ratOkB (mkR A B) := by
 obtain ⟨g,a,b,hg,ha,hb,hb0,h1,e1,e2⟩ := gcd_parts (A := A) hB
 unfold mkR
 rw [e1,e2]
 split
 ·rename_i h2
  have hv : val (dig b.natAbs) = b := by rw [val_dig]; omega
  have hne : dig b.natAbs ≠ [] := by intro e; rw [e] at hv; simp [val] at hv; omega
  have hV : ratOkB ⟨encI a,dig b.natAbs⟩ = true := by
   refine ratOkB_iff.2 ⟨?_,dig_can _,by rw [hv]; exact hb0, ?_,h2.2, ?_⟩
   ·show bigOkB (encI a) = true
    rw [bigOkB_iff]
    refine ⟨⟨by have := h2.1; show (dig a.natAbs).length ≤ _; omega,dig_can _⟩, ?_⟩
    intro h3
    have h4 : a < 0 := by simpa [encI] using h3
    show dig a.natAbs ≠ []
    intro e
    have h5 := val_dig a.natAbs
    rw [e] at h5
    simp [val] at h5
    omega
   ·exact h2.1
   ·show Int.gcd (val (dig a.natAbs)) (val (dig b.natAbs)) = 1
    rw [val_dig,val_dig]
    simpa [Int.gcd] using h1
  rw [hV]
  cases hd : dig b.natAbs with
  | nil => exact absurd hd hne
  | cons _ _ => rfl
 ·rfl
end Go.Proofs.YtpfipnankjeokaaGreat.X

namespace Go.XN
open Go.XB
def zeroP : TPoint := ⟨zeroR,zeroR⟩
def ptOkB (p : TPoint) : Bool := ratOkB p.x && ratOkB p.y
def ifP (p : TPoint) : TPoint := bif ptOkB p then p else zeroP
def padd (p q : TPoint) : TPoint := ifP ⟨radd p.x q.x,radd p.y q.y⟩
def psub (p q : TPoint) : TPoint := ifP ⟨rsub p.x q.x,rsub p.y q.y⟩
def pscale (r : TRat) (p : TPoint) : TPoint := ifP ⟨rmul r p.x,rmul r p.y⟩
def cross (p q : TPoint) : TRat := rsub (rmul p.x q.y) (rmul p.y q.x)
def darea (a b c : TPoint) : TRat := cross (psub b a) (psub c a)
def pmid (p q : TPoint) : TPoint := pscale (mkR 1 2) (padd p q)
end Go.XN
namespace Go.Proofs.YtpfipnankjeokaaGreat.X
open Go.RowKit Go.XB Go.XN
attribute [local go_sem] fillBy opAt deps depOf Region.wanted yielded
attribute [local simp] deps depOf MP.eq MP.agg MP.sl Facts

theorem rsub_den (r s : TRat) : (!(rsub r s).den.isEmpty) = ratOkB (rsub r s) := by
 unfold rsub
 split
 ·rename_i h
  rw [Bool.and_eq_true] at h
  exact mk_den (Int.mul_pos (ratOkB_iff.1 h.1).den0 (ratOkB_iff.1 h.2).den0)
 ·rfl
theorem zeroP_agg (w : World) : Agg w (.agg #[.bool false, .slice none 0 0, .slice none 0 0, .bool false, .slice none 0 0, .slice none 0 0]) zeroP [] := TPoint.mkAgg (x := zeroP) (Sl.nil w) (Sl.nil w) (Sl.nil w) (Sl.nil w)
theorem gives_zeroP {w W : World} (hb : Below w.heap.size w W) : GivesAgg w zeroP (.returned (.agg #[.bool false, .slice none 0 0, .slice none 0 0, .bool false, .slice none 0 0, .slice none 0 0])) W := ⟨_, [],rfl,zeroP_agg W,Own.nil _ _,hb⟩
theorem Free.join {w : World} {a b : List Nat} (h1 : Free w a) (h2 : Free w b) (hd : ∀ x ∈ a,x ∉ b) : Free w (a ++ b) :=
 ⟨List.nodup_append.2 ⟨h1.1,h2.1,fun x hx _ hy e => hd x hx (e ▸ hy)⟩,fun x hx => (List.mem_append.1 hx).elim (h1.2 x) (h2.2 x)⟩
theorem pt_join {w : World} {x : TPoint} {u0 u1 u2 u3 u4 u5 : Value} {b1 b2 : List Nat} (h1 : Agg w (.agg #[u0,u1,u2]) x.x b1) (h2 : Agg w (.agg #[u3,u4,u5]) x.y b2) : Agg w (.agg #[u0,u1,u2,u3,u4,u5]) x (b1 ++ b2) := by
 obtain ⟨A1,n1,c1,s1,A2,n2,c2,s2,e1,rfl,k1,k2⟩ := TRat.agg h1
 obtain ⟨A4,n4,c4,s4,A5,n5,c5,s5,e2,rfl,k4,k5⟩ := TRat.agg h2
 injection e1 with e1
 injection e2 with e2
 simp at e1 e2
 obtain ⟨rfl,rfl,rfl⟩ := e1
 obtain ⟨rfl,rfl,rfl⟩ := e2
 rw [List.append_assoc]
 exact TPoint.mkAgg k1 k2 k4 k5
theorem pt_x {w : World} {x : TPoint} {u0 u1 u2 u3 u4 u5 : Value} {b : List Nat} (h : Agg w (.agg #[u0,u1,u2,u3,u4,u5]) x b) : ∃ b1 b2,b = b1 ++ b2 ∧ Agg w (.agg #[u0,u1,u2]) x.x b1 ∧ Agg w (.agg #[u3,u4,u5]) x.y b2 := by
 obtain ⟨A1,n1,c1,s1,A2,n2,c2,s2,A4,n4,c4,s4,A5,n5,c5,s5,e,rfl,k1,k2,k4,k5⟩ := TPoint.agg h
 injection e with e
 simp at e
 obtain ⟨rfl,rfl,rfl,rfl,rfl,rfl⟩ := e
 exact ⟨s1 ++ s2,s4 ++ s5,by rw [List.append_assoc],TRat.mkAgg k1 k2,TRat.mkAgg k4 k5⟩

set_option maxHeartbeats 1000000 in
theorem impl_RatSign (v : Value) (r : TRat) (b : List Nat) (w : World) (hx : Agg w v r b) :
  Calls Tryz.prog 12 #[v] w (Gives w (.int .i64 (rsign r))) := by
 have HX := hid hx
 obtain ⟨A1,n1,c1,s1,A2,n2,c2,s2,rfl,rfl,hs1,hs2⟩ := TRat.agg hx
 clear hs1 hs2 hx
 cases hok : ratOkB r
 ·have E := hid (show 0 = rsign r by unfold rsign; rw [hok]; rfl)
  have OK := hid hok
  clear hok
  go_enter Tryz.func12,Tryz.ntmps12
  go_wp2_with fail
  have C := impl_RatOk _ r _ (w.alloc (.cells #[.bool r.num.neg, .slice A1 n1 c1, .slice A2 n2 c2] 32)) (HX.out.below (Below.box _))
  rw [OK.out] at C
  refine C.mono ?_
  clear C
  rintro _ w1 ⟨rfl,hb1⟩
  go_wp2
  go_ret
  exact ⟨ret_int E.out,Below.trans (Below.box _) (hb1.mono (by simp))⟩
 have E := hid (show rsignV r = rsign r by unfold rsign; rw [hok]; rfl)
 have VR := hid (ratOkB_iff.1 hok)
 have OK := hid hok
 clear hok
 go_enter Tryz.func12,Tryz.ntmps12
 go_wp2_with fail
 have C := impl_RatOk _ r _ (w.alloc (.cells #[.bool r.num.neg, .slice A1 n1 c1, .slice A2 n2 c2] 32)) (HX.out.below (Below.box _))
 rw [OK.out] at C
 refine C.mono ?_
 clear C
 rintro _ w1 ⟨rfl,hb1⟩
 obtain ⟨hc_w1,hf_w1⟩ := bcell hb1
 have hz0_w1 : w.heap.size < w1.heap.size := by have := hb1.size; (try simp at this); omega
 go_wp2_with fail
 refine (impl_sign _ r _ w1 ((HX.out.below (Below.box _)).below hb1) VR.out.mag (negOk_of VR.out.num)).mono ?_
 rintro _ w2 ⟨rfl,hb2⟩
 go_wp2
 go_ret
 exact ⟨ret_int E.out,Below.next (Below.trans (Below.box _) (hb1.mono (by simp))) hb2⟩

set_option maxHeartbeats 1000000 in
set_option maxRecDepth 10000 in
theorem impl_ifPoint (v : Value) (x : TPoint) (b : List Nat) (w : World) (hx : Agg w v x b) (h1 : (!x.x.den.isEmpty) = ratOkB x.x) (h2 : (!x.y.den.isEmpty) = ratOkB x.y) :
  Calls Tryz.prog 85 #[v] w (Gives w (bif ptOkB x then v else .agg #[.bool false, .slice none 0 0, .slice none 0 0, .bool false, .slice none 0 0, .slice none 0 0])) := by
 obtain ⟨A1,nA1,cA1,s1,A2,nA2,cA2,s2,A4,nA4,cA4,s4,A5,nA5,cA5,s5,rfl,rfl,hs1,hs2,hs4,hs5⟩ := TPoint.agg hx
 have P1 := hid (TRat.mkAgg (x := x.x) hs1 hs2); have P2 := hid (TRat.mkAgg (x := x.y) hs4 hs5)
 have D1 := hid h1; have D2 := hid h2
 clear hs1 hs2 hs4 hs5 hx h1 h2
 cases ho1 : ratOkB x.x
 ·have E := hid (show ptOkB x = false by unfold ptOkB; rw [ho1]; rfl)
  have O1 := hid ho1
  clear ho1
  go_enter Tryz.func85,Tryz.ntmps85
  go_wp2_with fail
  have C := impl_isRat _ x.x _ ((w.alloc (.cells #[.bool x.x.num.neg, .slice A1 nA1 cA1, .slice A2 nA2 cA2, .bool x.y.num.neg, .slice A4 nA4 cA4, .slice A5 nA5 cA5] 34)).alloc (.cells #[.bool false, .slice none 0 0, .slice none 0 0, .bool false, .slice none 0 0, .slice none 0 0] 34)) (P1.out.below Below.go)
  rw [D1.out,O1.out] at C
  refine C.mono ?_
  clear C
  rintro _ w1 ⟨rfl,hb1⟩
  obtain ⟨hc_w1,hf_w1⟩ := bcell hb1
  have hz0_w1 : w.heap.size < w1.heap.size := by have := hb1.size; (try simp at this); omega
  have hz1_w1 : w.heap.size + 1 < w1.heap.size := by have := hb1.size; (try simp at this); omega
  go_wp2
  refine bodyPost_ret (v := .agg #[.bool false, .slice none 0 0, .slice none 0 0, .bool false, .slice none 0 0, .slice none 0 0]) (by simp [results,Tryz.results85,go_sem, *]) rfl ?_
  rw [E.out]
  exact ⟨rfl,Below.go⟩
 have O1 := hid ho1
 cases ho2 : ratOkB x.y
 ·have E := hid (show ptOkB x = false by unfold ptOkB; rw [ho1,ho2]; rfl)
  have O2 := hid ho2
  clear ho1 ho2
  go_enter Tryz.func85,Tryz.ntmps85
  go_wp2_with fail
  have C := impl_isRat _ x.x _ ((w.alloc (.cells #[.bool x.x.num.neg, .slice A1 nA1 cA1, .slice A2 nA2 cA2, .bool x.y.num.neg, .slice A4 nA4 cA4, .slice A5 nA5 cA5] 34)).alloc (.cells #[.bool false, .slice none 0 0, .slice none 0 0, .bool false, .slice none 0 0, .slice none 0 0] 34)) (P1.out.below Below.go)
  rw [D1.out,O1.out] at C
  refine C.mono ?_
  clear C
  rintro _ w1 ⟨rfl,hb1⟩
  obtain ⟨hc_w1,hf_w1⟩ := bcell hb1
  have hz0_w1 : w.heap.size < w1.heap.size := by have := hb1.size; (try simp at this); omega
  have hz1_w1 : w.heap.size + 1 < w1.heap.size := by have := hb1.size; (try simp at this); omega
  go_wp2_with fail
  have C := impl_isRat _ x.y _ w1 (P2.out.below Below.go)
  rw [D2.out,O2.out] at C
  refine C.mono ?_
  clear C
  rintro _ w2 ⟨rfl,hb2⟩
  obtain ⟨hc_w2,hf_w2⟩ := bcell hb2
  have hz0_w2 : w.heap.size < w2.heap.size := by have := hb2.size; (try simp at this); omega
  have hz1_w2 : w.heap.size + 1 < w2.heap.size := by have := hb2.size; (try simp at this); omega
  go_wp2
  refine bodyPost_ret (v := .agg #[.bool false, .slice none 0 0, .slice none 0 0, .bool false, .slice none 0 0, .slice none 0 0]) (by simp [results,Tryz.results85,go_sem, *]) rfl ?_
  rw [E.out]
  exact ⟨rfl,Below.go⟩
 have E := hid (show ptOkB x = true by unfold ptOkB; rw [ho1,ho2]; rfl)
 have O2 := hid ho2
 clear ho1 ho2
 go_enter Tryz.func85,Tryz.ntmps85
 go_wp2_with fail
 have C := impl_isRat _ x.x _ ((w.alloc (.cells #[.bool x.x.num.neg, .slice A1 nA1 cA1, .slice A2 nA2 cA2, .bool x.y.num.neg, .slice A4 nA4 cA4, .slice A5 nA5 cA5] 34)).alloc (.cells #[.bool false, .slice none 0 0, .slice none 0 0, .bool false, .slice none 0 0, .slice none 0 0] 34)) (P1.out.below Below.go)
 rw [D1.out,O1.out] at C
 refine C.mono ?_
 clear C
 rintro _ w1 ⟨rfl,hb1⟩
 obtain ⟨hc_w1,hf_w1⟩ := bcell hb1
 have hz0_w1 : w.heap.size < w1.heap.size := by have := hb1.size; (try simp at this); omega
 have hz1_w1 : w.heap.size + 1 < w1.heap.size := by have := hb1.size; (try simp at this); omega
 go_wp2_with fail
 have C := impl_isRat _ x.y _ w1 (P2.out.below Below.go)
 rw [D2.out,O2.out] at C
 refine C.mono ?_
 clear C
 rintro _ w2 ⟨rfl,hb2⟩
 obtain ⟨hc_w2,hf_w2⟩ := bcell hb2
 have hz0_w2 : w.heap.size < w2.heap.size := by have := hb2.size; (try simp at this); omega
 have hz1_w2 : w.heap.size + 1 < w2.heap.size := by have := hb2.size; (try simp at this); omega
 go_wp2
 refine bodyPost_ret (v := .agg #[.bool x.x.num.neg, .slice A1 nA1 cA1, .slice A2 nA2 cA2, .bool x.y.num.neg, .slice A4 nA4 cA4, .slice A5 nA5 cA5]) (by simp [results,Tryz.results85,go_sem, *]) rfl ?_
 rw [E.out]
 exact ⟨rfl,Below.go⟩

set_option maxHeartbeats 1000000 in
set_option maxRecDepth 10000 in
theorem impl_IsValidPoint (v : Value) (x : TPoint) (b : List Nat) (w : World) (hx : Agg w v x b) :
  Calls Tryz.prog 31 #[v] w (Gives w (.bool (ptOkB x))) := by
 obtain ⟨A1,nA1,cA1,s1,A2,nA2,cA2,s2,A4,nA4,cA4,s4,A5,nA5,cA5,s5,rfl,rfl,hs1,hs2,hs4,hs5⟩ := TPoint.agg hx
 have P1 := hid (TRat.mkAgg (x := x.x) hs1 hs2); have P2 := hid (TRat.mkAgg (x := x.y) hs4 hs5)
 clear hs1 hs2 hs4 hs5 hx
 have E := hid (show (ratOkB x.x && ratOkB x.y) = ptOkB x from rfl)
 go_enter Tryz.func31,Tryz.ntmps31
 go_wp2_with fail
 have C := impl_areRats (some ⟨w.heap.size + 1,0,none⟩) 2 2 [x.x,x.y] _ ((w.alloc (.cells #[.bool x.x.num.neg, .slice A1 nA1 cA1, .slice A2 nA2 cA2, .bool x.y.num.neg, .slice A4 nA4 cA4, .slice A5 nA5 cA5] 34)).alloc (.cells #[.bool x.x.num.neg, .slice A1 nA1 cA1, .slice A2 nA2 cA2, .bool x.y.num.neg, .slice A4 nA4 cA4, .slice A5 nA5 cA5] 32)) (sl_two (P1.out.below Below.go) (P2.out.below Below.go) (by simp) (by go_simp) (by go_simp) (by go_simp) (by go_simp) (by go_simp) (by go_simp))
 refine C.mono ?_
 clear C
 rintro _ w1 ⟨rfl,hb1⟩
 obtain ⟨hc_w1,hf_w1⟩ := bcell hb1
 have hz0_w1 : w.heap.size < w1.heap.size := by have := hb1.size; (try simp at this); omega
 have hz1_w1 : w.heap.size + 1 < w1.heap.size := by have := hb1.size; (try simp at this); omega
 go_wp2
 go_ret
 exact ⟨ret_bool E.out,Below.go⟩


set_option maxHeartbeats 2000000 in
set_option maxRecDepth 10000 in
theorem impl_SubtractPoints (v1 v2 : Value) (p q : TPoint) (b1 b2 : List Nat) (w : World) (hx : Agg w v1 p b1) (hy : Agg w v2 q b2) :
  Calls Tryz.prog 34 #[v1,v2] w (GivesAgg w (psub p q)) := by
 obtain ⟨A1,nA1,cA1,s1,A2,nA2,cA2,s2,A4,nA4,cA4,s4,A5,nA5,cA5,s5,rfl,rfl,hs1,hs2,hs4,hs5⟩ := TPoint.agg hx
 obtain ⟨B1,nB1,cB1,t1,B2,nB2,cB2,t2,B4,nB4,cB4,t4,B5,nB5,cB5,t5,rfl,rfl,ht1,ht2,ht4,ht5⟩ := TPoint.agg hy
 have P1 := hid (TRat.mkAgg (x := p.x) hs1 hs2); have P2 := hid (TRat.mkAgg (x := p.y) hs4 hs5)
 have Q1 := hid (TRat.mkAgg (x := q.x) ht1 ht2); have Q2 := hid (TRat.mkAgg (x := q.y) ht4 ht5)
 clear hs1 hs2 hs4 hs5 ht1 ht2 ht4 ht5 hx hy
 have E := hid (show psub p q = ifP (⟨rsub p.x q.x,rsub p.y q.y⟩ : TPoint) from rfl)
 go_enter Tryz.func34,Tryz.ntmps34
 go_wp2_with fail
 refine wp_region_line 10 (by kernel_rfl) (by kernel_rfl) (by kernel_rfl) (by kernel_rfl) (by kernel_rfl) ?_
 simp only [List.take_succ_cons,List.take_zero,List.drop_succ_cons,List.drop_zero]
 iterate 4
  apply walkM_eq
  case h =>
   intro yq zq wq hC hd
   obtain ⟨hcq,hfq⟩ := bcell hC
   simp at hd
   refine ⟨by go_simp; done, ?_⟩
   go_simp
   first | (go_ints; exact rfl) | (go_ints; rw [if_pos (by omega)]; try exact rfl) | exact rfl | (rw [if_pos (by omega)]; try exact rfl)
 refine walkM_call (MP.agg (rsub p.x q.x)) ?_ ?_
 ·intro yq zq wq hC hd
  obtain ⟨hcq,hfq⟩ := bcell hC
  simp at hd
  refine ⟨by go_simp; done, ?_⟩
  apply Exists.intro
  apply Exists.intro
  constructor
  ·go_simp
   exact ⟨rfl,rfl⟩
  ·exact gives_agg (impl_RatSub _ _ p.x q.x _ _ wq (P1.out.below Below.go) (Q1.out.below Below.go))
 iterate 4
  apply walkM_eq
  case h =>
   intro yq zq wq hC hd
   obtain ⟨hcq,hfq⟩ := bcell hC
   simp at hd
   refine ⟨by go_simp; done, ?_⟩
   go_simp
   first | (go_ints; exact rfl) | (go_ints; rw [if_pos (by omega)]; try exact rfl) | exact rfl | (rw [if_pos (by omega)]; try exact rfl)
 refine walkM_call (MP.agg (rsub p.y q.y)) ?_ ?_
 ·intro yq zq wq hC hd
  obtain ⟨hcq,hfq⟩ := bcell hC
  simp at hd
  refine ⟨by go_simp; done, ?_⟩
  apply Exists.intro
  apply Exists.intro
  constructor
  ·go_simp
   exact ⟨rfl,rfl⟩
  ·exact gives_agg (impl_RatSub _ _ p.y q.y _ _ wq (P2.out.below Below.go) (Q2.out.below Below.go))
 intro yq zq wa hC hd hdis0
 have hdis := hid hdis0
 clear hdis0
 simp at hd
 have q4 := hd.2.2.2.2.1
 have q9 := hd.2.2.2.2.2.2.2.2.2
 obtain ⟨⟨ha4,hf4⟩,hr4⟩ := q4
 obtain ⟨⟨ha9,hf9⟩,hr9⟩ := q9
 obtain ⟨D1,nD1,cD1,d1,D2,nD2,cD2,d2,e4,z4, _, _⟩ := TRat.agg ha4
 obtain ⟨D4,nD4,cD4,d4,D5,nD5,cD5,d5,e9,z9, _, _⟩ := TRat.agg ha9
 rw [e4] at ha4
 rw [e9] at ha9
 have HA := hid (pt_join (x := (⟨rsub p.x q.x,rsub p.y q.y⟩ : TPoint)) ha4 ha9)
 have HF := hid (Free.join hf4 hf9 (hdis.out 4 9 (by decide) (by decide) (by decide)))
 have HR := hid (show ∀ b ∈ zq 4 ++ zq 9,w.heap.size + 3 ≤ b from fun b hb => by
  rcases List.mem_append.1 hb with h | h
  ·have := (hr4 b h).1; (try simp at this); omega
  ·have := (hr9 b h).1; (try simp at this); omega)
 clear hd hdis ha4 hf4 hr4 ha9 hf9 hr9 z4 z9
 generalize zq 4 ++ zq 9 = zs at *
 obtain ⟨hc_wa,hf_wa⟩ := bcell hC
 have hz0_wa : w.heap.size < wa.heap.size := by have := hC.size; (try simp at this); omega
 have hz1_wa : w.heap.size + 1 < wa.heap.size := by have := hC.size; (try simp at this); omega
 have hz2_wa : w.heap.size + 1 + 1 < wa.heap.size := by have := hC.size; (try simp at this); omega
 go_wp2_with fail
 have C := impl_ifPoint _ (⟨rsub p.x q.x,rsub p.y q.y⟩ : TPoint) _ wa HA.out (rsub_den _ _) (rsub_den _ _)
 cases ho : ptOkB (⟨rsub p.x q.x,rsub p.y q.y⟩ : TPoint)
 ·have O := hid ho
  rw [ho] at C
  clear ho
  refine C.mono ?_
  clear C
  rintro _ wb ⟨rfl,hb⟩
  obtain ⟨hc_wb,hf_wb⟩ := bcell hb
  have hz0_wb : w.heap.size < wb.heap.size := by have := hb.size; (try simp at this); omega
  have hz1_wb : w.heap.size + 1 < wb.heap.size := by have := hb.size; (try simp at this); omega
  have hz2_wb : w.heap.size + 1 + 1 < wb.heap.size := by have := hb.size; (try simp at this); omega
  go_wp2
  refine bodyPost_ret (v := .agg #[.bool false, .slice none 0 0, .slice none 0 0, .bool false, .slice none 0 0, .slice none 0 0]) (by simp [results,Tryz.results34,go_sem, *]) rfl ?_
  rw [E.out]
  unfold ifP
  rw [O.out]
  exact gives_zeroP Below.go
 ·have O := hid ho
  rw [ho] at C
  clear ho
  refine C.mono ?_
  clear C
  rintro _ wb ⟨rfl,hb⟩
  obtain ⟨hc_wb,hf_wb⟩ := bcell hb
  have hz0_wb : w.heap.size < wb.heap.size := by have := hb.size; (try simp at this); omega
  have hz1_wb : w.heap.size + 1 < wb.heap.size := by have := hb.size; (try simp at this); omega
  have hz2_wb : w.heap.size + 1 + 1 < wb.heap.size := by have := hb.size; (try simp at this); omega
  go_wp2
  refine bodyPost_ret (v := .agg #[.bool (rsub p.x q.x).num.neg, .slice D1 nD1 cD1, .slice D2 nD2 cD2, .bool (rsub p.y q.y).num.neg, .slice D4 nD4 cD4, .slice D5 nD5 cD5]) (by simp [results,Tryz.results34,go_sem, *]) rfl ?_
  rw [E.out]
  unfold ifP
  rw [O.out]
  refine agg_fin (lo := w.heap.size + 3) HA.out HF.out HR.out (by omega) ?_ ?_
  ·exact Above.go
  ·exact Below.go

end Go.Proofs.YtpfipnankjeokaaGreat.X
namespace Go.Proofs.YtpfipnankjeokaaGreat.X
open Go.RowKit Go.XB Go.XN
attribute [local go_sem] fillBy opAt deps depOf Region.wanted yielded
attribute [local simp] deps depOf MP.eq MP.agg MP.sl Facts

theorem impl_half (w : World) : Calls Tryz.prog 22 #[.int .i64 1, .int .i64 2] w (GivesAgg w (mkR 1 2)) :=
 impl_RatOf 1 2 w (by constructor <;> decide) (by constructor <;> decide) (by decide)

set_option maxHeartbeats 2000000 in
set_option maxRecDepth 10000 in
theorem impl_Cross (v1 v2 : Value) (p q : TPoint) (b1 b2 : List Nat) (w : World) (hx : Agg w v1 p b1) (hy : Agg w v2 q b2) :
  Calls Tryz.prog 33 #[v1,v2] w (GivesAgg w (cross p q)) := by
 have HX := hid hx; have HY := hid hy
 obtain ⟨A1,nA1,cA1,s1,A2,nA2,cA2,s2,A4,nA4,cA4,s4,A5,nA5,cA5,s5,rfl,rfl,hs1,hs2,hs4,hs5⟩ := TPoint.agg hx
 obtain ⟨B1,nB1,cB1,t1,B2,nB2,cB2,t2,B4,nB4,cB4,t4,B5,nB5,cB5,t5,rfl,rfl,ht1,ht2,ht4,ht5⟩ := TPoint.agg hy
 have P1 := hid (TRat.mkAgg (x := p.x) hs1 hs2); have P2 := hid (TRat.mkAgg (x := p.y) hs4 hs5)
 have Q1 := hid (TRat.mkAgg (x := q.x) ht1 ht2); have Q2 := hid (TRat.mkAgg (x := q.y) ht4 ht5)
 clear hs1 hs2 hs4 hs5 ht1 ht2 ht4 ht5 hx hy HX HY
 go_enter Tryz.func33,Tryz.ntmps33
 go_wp2_with fail
 refine wp_region_line 10 (by kernel_rfl) (by kernel_rfl) (by kernel_rfl) (by kernel_rfl) (by kernel_rfl) ?_
 simp only [List.take_succ_cons,List.take_zero,List.drop_succ_cons,List.drop_zero]
 iterate 4
  apply walkM_eq
  case h =>
   intro yq zq wq hC hd
   obtain ⟨hcq,hfq⟩ := bcell hC
   simp at hd
   refine ⟨by go_simp; done, ?_⟩
   go_simp
   first | (go_ints; exact rfl) | (go_ints; rw [if_pos (by omega)]; try exact rfl) | exact rfl | (rw [if_pos (by omega)]; try exact rfl)
 refine walkM_call (MP.agg (rmul p.x q.y)) ?_ ?_
 ·intro yq zq wq hC hd
  obtain ⟨hcq,hfq⟩ := bcell hC
  simp at hd
  refine ⟨by go_simp; done, ?_⟩
  apply Exists.intro
  apply Exists.intro
  constructor
  ·go_simp
   exact ⟨rfl,rfl⟩
  ·exact gives_agg (impl_RatMul _ _ p.x q.y _ _ wq (P1.out.below Below.go) (Q2.out.below Below.go))
 iterate 4
  apply walkM_eq
  case h =>
   intro yq zq wq hC hd
   obtain ⟨hcq,hfq⟩ := bcell hC
   simp at hd
   refine ⟨by go_simp; done, ?_⟩
   go_simp
   first | (go_ints; exact rfl) | (go_ints; rw [if_pos (by omega)]; try exact rfl) | exact rfl | (rw [if_pos (by omega)]; try exact rfl)
 refine walkM_call (MP.agg (rmul p.y q.x)) ?_ ?_
 ·intro yq zq wq hC hd
  obtain ⟨hcq,hfq⟩ := bcell hC
  simp at hd
  refine ⟨by go_simp; done, ?_⟩
  apply Exists.intro
  apply Exists.intro
  constructor
  ·go_simp
   exact ⟨rfl,rfl⟩
  ·exact gives_agg (impl_RatMul _ _ p.y q.x _ _ wq (P2.out.below Below.go) (Q1.out.below Below.go))
 intro yq zq wa hC hd hdis0
 have hdis := hid hdis0
 clear hdis0
 simp at hd
 have q4 := hd.2.2.2.2.1
 have q9 := hd.2.2.2.2.2.2.2.2.2
 have H4 := hid q4.1.1; have H9 := hid q9.1.1
 clear hd hdis q4 q9
 obtain ⟨hc_wa,hf_wa⟩ := bcell hC
 have hz0_wa : w.heap.size < wa.heap.size := by have := hC.size; (try simp at this); omega
 have hz1_wa : w.heap.size + 1 < wa.heap.size := by have := hC.size; (try simp at this); omega
 have hz2_wa : w.heap.size + 1 + 1 < wa.heap.size := by have := hC.size; (try simp at this); omega
 go_wp2_with fail
 refine (impl_RatSub _ _ (rmul p.x q.y) (rmul p.y q.x) _ _ wa H4.out H9.out).mono ?_
 rintro _ wb ⟨vb,sb,rfl,hab,hob,hb⟩
 obtain ⟨D1,nD1,cD1,d1,D2,nD2,cD2,d2,rfl,hzb, _, _⟩ := TRat.agg hab
 have HA := hid hab; have HO := hid hob
 clear hab hob hzb
 obtain ⟨hc_wb,hf_wb⟩ := bcell hb
 have hz0_wb : w.heap.size < wb.heap.size := by have := hb.size; (try simp at this); omega
 have hz1_wb : w.heap.size + 1 < wb.heap.size := by have := hb.size; (try simp at this); omega
 have hz2_wb : w.heap.size + 1 + 1 < wb.heap.size := by have := hb.size; (try simp at this); omega
 go_wp2
 refine bodyPost_ret (v := .agg #[.bool (rsub (rmul p.x q.y) (rmul p.y q.x)).num.neg, .slice D1 nD1 cD1, .slice D2 nD2 cD2]) (by simp [results,Tryz.results33,go_sem, *]) rfl ?_
 refine agg_fin (lo := w.heap.size + 3) HA.out HO.out.free (fun b hb => by have := (HO.out.2 b hb).1; (try simp at this); omega) (by omega) ?_ ?_
 ·exact Above.go
 ·exact Below.go

set_option maxHeartbeats 2000000 in
set_option maxRecDepth 10000 in
theorem impl_DoubleArea (v0 v1 v2 : Value) (o p q : TPoint) (b0 b1 b2 : List Nat) (w : World) (h0 : Agg w v0 o b0) (hx : Agg w v1 p b1) (hy : Agg w v2 q b2) :
  Calls Tryz.prog 90 #[v0,v1,v2] w (GivesAgg w (darea o p q)) := by
 have HO := hid h0
 obtain ⟨C1,nC1,cC1,r1,C2,nC2,cC2,r2,C4,nC4,cC4,r4,C5,nC5,cC5,r5,rfl,rfl,hr1,hr2,hr4,hr5⟩ := TPoint.agg h0
 have HX := hid hx; have HY := hid hy
 obtain ⟨A1,nA1,cA1,s1,A2,nA2,cA2,s2,A4,nA4,cA4,s4,A5,nA5,cA5,s5,rfl,rfl,hs1,hs2,hs4,hs5⟩ := TPoint.agg hx
 obtain ⟨B1,nB1,cB1,t1,B2,nB2,cB2,t2,B4,nB4,cB4,t4,B5,nB5,cB5,t5,rfl,rfl,ht1,ht2,ht4,ht5⟩ := TPoint.agg hy
 clear hr1 hr2 hr4 hr5 hs1 hs2 hs4 hs5 ht1 ht2 ht4 ht5 h0 hx hy
 go_enter Tryz.func90,Tryz.ntmps90
 go_wp2_with fail
 refine wp_region_line 6 (by kernel_rfl) (by kernel_rfl) (by kernel_rfl) (by kernel_rfl) (by kernel_rfl) ?_
 simp only [List.take_succ_cons,List.take_zero,List.drop_succ_cons,List.drop_zero]
 iterate 2
  apply walkM_eq
  case h =>
   intro yq zq wq hC hd
   obtain ⟨hcq,hfq⟩ := bcell hC
   simp at hd
   refine ⟨by go_simp; done, ?_⟩
   go_simp
   first | (go_ints; exact rfl) | (go_ints; rw [if_pos (by omega)]; try exact rfl) | exact rfl | (rw [if_pos (by omega)]; try exact rfl)
 refine walkM_call (MP.agg (psub p o)) ?_ ?_
 ·intro yq zq wq hC hd
  obtain ⟨hcq,hfq⟩ := bcell hC
  simp at hd
  refine ⟨by go_simp; done, ?_⟩
  apply Exists.intro
  apply Exists.intro
  constructor
  ·go_simp
   exact ⟨rfl,rfl⟩
  ·exact gives_agg (impl_SubtractPoints _ _ p o _ _ wq (HX.out.below Below.go) (HO.out.below Below.go))
 iterate 2
  apply walkM_eq
  case h =>
   intro yq zq wq hC hd
   obtain ⟨hcq,hfq⟩ := bcell hC
   simp at hd
   refine ⟨by go_simp; done, ?_⟩
   go_simp
   first | (go_ints; exact rfl) | (go_ints; rw [if_pos (by omega)]; try exact rfl) | exact rfl | (rw [if_pos (by omega)]; try exact rfl)
 refine walkM_call (MP.agg (psub q o)) ?_ ?_
 ·intro yq zq wq hC hd
  obtain ⟨hcq,hfq⟩ := bcell hC
  simp at hd
  refine ⟨by go_simp; done, ?_⟩
  apply Exists.intro
  apply Exists.intro
  constructor
  ·go_simp
   exact ⟨rfl,rfl⟩
  ·exact gives_agg (impl_SubtractPoints _ _ q o _ _ wq (HY.out.below Below.go) (HO.out.below Below.go))
 intro yq zq wa hC hd hdis0
 have hdis := hid hdis0
 clear hdis0
 simp at hd
 have q4 := hd.2.2.1
 have q9 := hd.2.2.2.2.2
 have H4 := hid q4.1.1; have H9 := hid q9.1.1
 clear hd hdis q4 q9
 obtain ⟨hc_wa,hf_wa⟩ := bcell hC
 have hz0_wa : w.heap.size < wa.heap.size := by have := hC.size; (try simp at this); omega
 have hz1_wa : w.heap.size + 1 < wa.heap.size := by have := hC.size; (try simp at this); omega
 have hz2_wa : w.heap.size + 1 + 1 < wa.heap.size := by have := hC.size; (try simp at this); omega
 have hz3_wa : w.heap.size + 1 + 1 + 1 < wa.heap.size := by have := hC.size; (try simp at this); omega
 go_wp2_with fail
 refine (impl_Cross _ _ (psub p o) (psub q o) _ _ wa H4.out H9.out).mono ?_
 rintro _ wb ⟨vb,sb,rfl,hab,hob,hb⟩
 obtain ⟨D1,nD1,cD1,d1,D2,nD2,cD2,d2,rfl,hzb, _, _⟩ := TRat.agg hab
 have HA := hid hab; have HOb := hid hob
 clear hab hob hzb
 obtain ⟨hc_wb,hf_wb⟩ := bcell hb
 have hz0_wb : w.heap.size < wb.heap.size := by have := hb.size; (try simp at this); omega
 have hz1_wb : w.heap.size + 1 < wb.heap.size := by have := hb.size; (try simp at this); omega
 have hz2_wb : w.heap.size + 1 + 1 < wb.heap.size := by have := hb.size; (try simp at this); omega
 have hz3_wb : w.heap.size + 1 + 1 + 1 < wb.heap.size := by have := hb.size; (try simp at this); omega
 go_wp2
 refine bodyPost_ret (v := .agg #[.bool (cross (psub p o) (psub q o)).num.neg, .slice D1 nD1 cD1, .slice D2 nD2 cD2]) (by simp [results,Tryz.results90,go_sem, *]) rfl ?_
 refine agg_fin (lo := w.heap.size + 4) HA.out HOb.out.free (fun b hb => by have := (HOb.out.2 b hb).1; (try simp at this); omega) (by omega) ?_ ?_
 ·exact Above.go
 ·exact Below.go

end Go.Proofs.YtpfipnankjeokaaGreat.X

namespace Go.XN
open Go.XB
def properB : List TPoint → Bool
 | [a,b,c] => (ptOkB a && (ptOkB b && ptOkB c)) && decide (0 < rsign (darea a b c))
 | _ => false
end Go.XN
namespace Go.Proofs.YtpfipnankjeokaaGreat.X
open Go.RowKit Go.XB Go.XN
attribute [local go_sem] fillBy opAt deps depOf Region.wanted yielded
attribute [local simp] deps depOf MP.eq MP.agg MP.sl Facts

set_option maxRecDepth 10000 in
set_option maxHeartbeats 1000000 in
theorem index_pts (f : Nat) (hf : Known f) (A : Option Addr) (n c : Nat) (xs : List TPoint) (bs : List Nat) (w : World) (p : TPoint → Bool) (hx : Sl w A n c xs bs)
  (hp : ∀ (v : Value) (x : TPoint) (b : List Nat) (w : World),x ∈ xs → Agg w v x b → Calls Tryz.prog f #[v] w (Gives w (.bool (p x)))) :
  Calls Tryz.prog 134 #[.slice A n c, .func (.func f) #[] #[]] w (GivesIdx w (xs.any p)) := by
 have HL := hid hx.1
 have HX := hid hx
 have HP := hid hp
 unfold Known at hf
 have hm : n ≤ maxLen := Nat.le_trans hx.2.1 hx.2.2.1
 unfold maxLen at hm
 clear hx hp
 go_enter Tryz.func134,Tryz.ntmps134
 go_wp2_with fail
 go_loopg [8] n (fun g s8 wr => ∃ k : Nat,k + g = n ∧ s8 = .int .i64 k ∧ Hid ((xs.take k).any p = false) ∧ Below w.heap.size w wr)
 case atStart => exact ⟨0,by omega,rfl,by show (xs.take 0).any p = false; simp,Below.refl _ _⟩
 case round =>
  obtain ⟨k,hk,rfl,ha,hb⟩ := hrel
  rcases Nat.lt_or_ge k n with hkn | hkn
  ·obtain ⟨be,offe,x,A1,m1,d1,s1,A2,m2,d2,s2,A4,m4,d4,s4,A5,m5,d5,s5,rfl,hble,hx1,e0,e1,e2,e3,e4,e5,hag⟩ := TPoint.elemA (Sl.below HX.out hb) hkn
   have HX1 := hid hx1
   have HAG := hid hag
   have hki : (k : Int) < n := by omega
   obtain ⟨g,rfl⟩ : ∃ g,gk = g + 1 := ⟨gk - 1,by omega⟩
   have hk' := hid (show k + 1 + g = n by omega)
   have hkj : k + 1 ≤ n := hkn
   clear hx1 hk hkn hag
   go_wp2_with fail
   refine (HP.out _ x _ wr (List.mem_of_getElem? HX1.out) HAG.out).mono ?_
   rintro _ w1 ⟨rfl,hb1⟩
   have hb2 := Below.next hb hb1
   cases hpx : p x
   ·have r1 := hid (any_step HX1.out ha.out hpx)
    clear hpx
    go_wp2_with fail
    go_roundg g
    case measure => omega
    case rel => exact ⟨k + 1,hk'.out,by go_num,r1,hb2⟩
   ·have r1 := hid (any_at HX1.out hpx)
    clear hpx
    go_wp2
    go_ret
    exact ⟨k,rfl,by rw [r1.out]; simp,hb2⟩
  ·have e := hid (show xs.any p = false by
    have := ha.out
    rwa [List.take_of_length_le (by rw [HL.out]; omega)] at this)
   have hki : ¬ ((k : Int) < n) := by omega
   clear hk hkn
   go_wp2
   go_ret
   exact ⟨-1,rfl,by rw [e.out]; rfl,hb⟩

set_option maxHeartbeats 400000 in
theorem contains_pts (f : Nat) (hf : Known f) (A : Option Addr) (n c : Nat) (xs : List TPoint) (bs : List Nat) (w : World) (p : TPoint → Bool) (hx : Sl w A n c xs bs)
  (hp : ∀ (v : Value) (x : TPoint) (b : List Nat) (w : World),x ∈ xs → Agg w v x b → Calls Tryz.prog f #[v] w (Gives w (.bool (p x)))) :
  Calls Tryz.prog 93 #[.slice A n c, .func (.func f) #[] #[]] w (Gives w (.bool (xs.any p))) := by
 have HX := hid hx
 have HP := hid hp
 have HF := hid hf
 clear hx hp hf
 go_enter Tryz.func93,Tryz.ntmps93
 go_wp2_with fail
 refine (index_pts f HF.out A n c xs bs _ p (Sl.below HX.out Below.go) HP.out).mono ?_
 rintro _ w1 ⟨r,rfl,e,hb1⟩
 have E := hid e
 clear e
 go_wp2
 go_ret
 exact ⟨ret_bool E.out,hb1⟩

theorem known_IsProper_1 : Known 94 := fun a w => by kernel_rfl
def ptBad (x : TPoint) : Bool := !ptOkB x
set_option maxHeartbeats 400000 in
theorem impl_IsProper_1 (v : Value) (x : TPoint) (b : List Nat) (w : World) (hx : Agg w v x b) : Calls Tryz.prog 94 #[v] w (Gives w (.bool (ptBad x))) := by
 have HX := hid hx
 obtain ⟨A1,nA1,cA1,s1,A2,nA2,cA2,s2,A4,nA4,cA4,s4,A5,nA5,cA5,s5,rfl,rfl,hs1,hs2,hs4,hs5⟩ := TPoint.agg hx
 clear hs1 hs2 hs4 hs5 hx
 go_enter Tryz.func94,Tryz.ntmps94
 go_wp2_with fail
 refine (impl_IsValidPoint _ x _ _ (Agg.below HX.out Below.go)).mono ?_
 rintro _ w1 ⟨rfl,hb1⟩
 go_wp2
 go_ret
 exact ⟨rfl,Below.go⟩

set_option maxHeartbeats 2000000 in
set_option maxRecDepth 10000 in
theorem impl_IsProper (A : Option Addr) (n c : Nat) (xs : List TPoint) (bs : List Nat) (w : World) (hx : Sl w A n c xs bs) :
  Calls Tryz.prog 42 #[.slice A n c] w (Gives w (.bool (properB xs))) := by
 have HX := hid hx
 by_cases hn : n = 3
 ·subst hn
  have hany := hid (show xs.any ptBad = !xs.all ptOkB by rw [List.not_all_eq_any_not]; rfl)
  cases hv : xs.all ptOkB
  ·have E := hid (show properB xs = false by
    match xs,hx.1 with
    | [a,b,c'], _ =>
     simp only [List.all_cons,List.all_nil,Bool.and_true] at hv
     show ((ptOkB a && (ptOkB b && ptOkB c')) && _) = false
     rw [hv]; rfl)
   have AN := hid (show xs.any ptBad = true by rw [hany.out,hv]; rfl)
   clear hv hany hx
   go_enter Tryz.func42,Tryz.ntmps42
   go_wp2_with fail
   refine wp_region_walk (by kernel_rfl) (by kernel_rfl) (by kernel_rfl) ?_
   iterate 5
    apply walkM_eq
    case h =>
     intro yq zq wq hC hd
     obtain ⟨hcq,hfq⟩ := bcell hC
     simp at hd
     refine ⟨by go_simp; done, ?_⟩
     go_simp
     first | (go_ints; exact rfl) | (go_ints; rw [if_pos (by omega)]; try exact rfl) | exact rfl | (rw [if_pos (by omega)]; try exact rfl)
   refine walkM_call (MP.eq (.bool true)) ?_ ?_
   ·intro yq zq wq hC hd
    obtain ⟨hcq,hfq⟩ := bcell hC
    simp at hd
    refine ⟨by go_simp; done, ?_⟩
    apply Exists.intro
    apply Exists.intro
    constructor
    ·go_simp
     exact ⟨rfl,rfl⟩
    ·exact gives_eq (by have C := contains_pts 94 known_IsProper_1 A 3 c xs bs wq ptBad (Sl.below HX.out hC) (fun v x b w _ h => impl_IsProper_1 v x b w h); rwa [AN.out] at C)
   iterate 3
    apply walkM_eq
    case h =>
     intro yq zq wq hC hd
     obtain ⟨hcq,hfq⟩ := bcell hC
     simp at hd
     refine ⟨by go_simp; done, ?_⟩
     go_simp
     first | (go_ints; exact rfl) | (go_ints; rw [if_pos (by omega)]; try exact rfl) | exact rfl | (rw [if_pos (by omega)]; try exact rfl)
   iterate 12
    apply walkM_skip
    case h =>
     intro yq zq wq hC hd
     simp at hd
     go_simp
     done
   iterate 2
    apply walkM_eq
    case h =>
     intro yq zq wq hC hd
     obtain ⟨hcq,hfq⟩ := bcell hC
     simp at hd
     refine ⟨by go_simp; done, ?_⟩
     go_simp
     first | (go_ints; exact rfl) | (go_ints; rw [if_pos (by omega)]; try exact rfl) | exact rfl | (rw [if_pos (by omega)]; try exact rfl)
   intro yq zq ux hC hd hdis0
   have hdis := hid hdis0
   clear hdis0
   simp at hd
   go_simp
   clear hd hdis
   go_wp2
   go_ret
   rw [E.out]
   exact ⟨rfl,hC⟩
  ·have AN := hid (show xs.any ptBad = false by rw [hany.out,hv]; rfl)
   have HV := hid hv
   clear hv hany
   have HX0 := hx
   obtain ⟨a1,b1,c1,rfl⟩ : ∃ a b c',xs = [a,b,c'] := by
    match xs,hx.1 with
    | [a,b,c'], _ => exact ⟨a,b,c',rfl⟩
   obtain ⟨be0,of0,a2,P1,nP1,cP1,p1,P2,nP2,cP2,p2,P4,nP4,cP4,p4,P5,nP5,cP5,p5,hA0,hbl0,hx0,Pe0,Pe1,Pe2,Pe3,Pe4,Pe5,hg0⟩ := TPoint.elemA HX.out (show 0 < 3 by decide)
   obtain ⟨be1,of1,b2,Q1,nQ1,cQ1,q1,Q2,nQ2,cQ2,q2,Q4,nQ4,cQ4,q4,Q5,nQ5,cQ5,q5,hA1,hbl1,hx1,Qe0,Qe1,Qe2,Qe3,Qe4,Qe5,hg1⟩ := TPoint.elemA HX.out (show 1 < 3 by decide)
   obtain ⟨be2,of2,c2,R1,nR1,cR1,r1,R2,nR2,cR2,r2,R4,nR4,cR4,r4,R5,nR5,cR5,r5,hA2,hbl2,hx2,Re0,Re1,Re2,Re3,Re4,Re5,hg2⟩ := TPoint.elemA HX.out (show 2 < 3 by decide)
   subst hA0
   injection hA1 with hA1; injection hA1 with h1 h2 _; subst h1; subst h2
   injection hA2 with hA2; injection hA2 with h1 h2 _; subst h1; subst h2
   simp at hx0 hx1 hx2
   subst hx0; subst hx1; subst hx2
   simp at Pe0 Pe1 Pe2 Pe3 Pe4 Pe5 Qe0 Qe1 Qe2 Qe3 Qe4 Qe5 Re0 Re1 Re2 Re3 Re4 Re5
   have HA := hid hg0; have HB := hid hg1; have HC := hid hg2
   clear hbl1 hbl2 hg0 hg1 hg2 hx HX0
   have E := hid (show decide (0 < rsign (darea a1 b1 c1)) = properB [a1,b1,c1] by
    have h := HV.out
    simp only [List.all_cons,List.all_nil,Bool.and_true] at h
    show _ = ((ptOkB a1 && (ptOkB b1 && ptOkB c1)) && _)
    rw [h]; rfl)
   clear HV
   go_enter Tryz.func42,Tryz.ntmps42
   go_wp2_with fail
   refine wp_region_walk (by kernel_rfl) (by kernel_rfl) (by kernel_rfl) ?_
   iterate 5
    apply walkM_eq
    case h =>
     intro yq zq wq hC hd
     obtain ⟨hcq,hfq⟩ := bcell hC
     simp at hd
     refine ⟨by go_simp; done, ?_⟩
     go_simp
     first | (go_ints; exact rfl) | (go_ints; rw [if_pos (by omega)]; try exact rfl) | exact rfl | (rw [if_pos (by omega)]; try exact rfl)
   refine walkM_call (MP.eq (.bool false)) ?_ ?_
   ·intro yq zq wq hC hd
    obtain ⟨hcq,hfq⟩ := bcell hC
    simp at hd
    refine ⟨by go_simp; done, ?_⟩
    apply Exists.intro
    apply Exists.intro
    constructor
    ·go_simp
     exact ⟨rfl,rfl⟩
    ·exact gives_eq (by have C := contains_pts 94 known_IsProper_1 _ 3 c [a1,b1,c1] bs wq ptBad (Sl.below HX.out hC) (fun v x b w _ h => impl_IsProper_1 v x b w h); rwa [AN.out] at C)
   iterate 3
    apply walkM_eq
    case h =>
     intro yq zq wq hC hd
     obtain ⟨hcq,hfq⟩ := bcell hC
     simp at hd
     refine ⟨by go_simp; done, ?_⟩
     go_simp
     first | (go_ints; exact rfl) | (go_ints; rw [if_pos (by omega)]; try exact rfl) | exact rfl | (rw [if_pos (by omega)]; try exact rfl)
   iterate 9
    apply walkM_eq
    case h =>
     intro yq zq wq hC hd
     obtain ⟨hcq,hfq⟩ := bcell hC
     simp at hd
     refine ⟨by go_simp; done, ?_⟩
     go_simp
     first | (go_ints; exact rfl) | (go_ints; rw [if_pos (by omega)]; try exact rfl) | exact rfl | (rw [if_pos (by omega)]; try exact rfl)
   refine walkM_call (MP.agg (darea a1 b1 c1)) ?_ ?_
   ·intro yq zq wq hC hd
    obtain ⟨hcq,hfq⟩ := bcell hC
    simp at hd
    refine ⟨by go_simp; done, ?_⟩
    apply Exists.intro
    apply Exists.intro
    constructor
    ·go_simp
     exact ⟨rfl,rfl⟩
    ·exact gives_agg (impl_DoubleArea _ _ _ a1 b1 c1 _ _ _ wq (HA.out.below hC) (HB.out.below hC) (HC.out.below hC))
   refine walkM_call (MP.eq (.int .i64 (rsign (darea a1 b1 c1)))) ?_ ?_
   ·intro yq zq wq hC hd
    obtain ⟨hcq,hfq⟩ := bcell hC
    simp at hd
    refine ⟨by go_simp; done, ?_⟩
    apply Exists.intro
    apply Exists.intro
    constructor
    ·go_simp
     exact ⟨rfl,rfl⟩
    ·exact gives_eq (impl_RatSign _ (darea a1 b1 c1) _ wq hd.1.1)
   iterate 3
    apply walkM_eq
    case h =>
     intro yq zq wq hC hd
     obtain ⟨hcq,hfq⟩ := bcell hC
     simp at hd
     refine ⟨by go_simp; done, ?_⟩
     go_simp
     first | (go_ints; exact rfl) | (go_ints; rw [if_pos (by omega)]; try exact rfl) | exact rfl | (rw [if_pos (by omega)]; try exact rfl)
   intro yq zq ux hC hd hdis0
   have hdis := hid hdis0
   clear hdis0
   simp at hd
   go_simp
   clear hd hdis
   go_wp2
   go_ret
   exact ⟨ret_bool E.out,hC⟩
 ·have E := hid (show properB xs = false by
   have hl := hx.1
   match xs with
   | [] => rfl
   | [_] => rfl
   | [_, _] => rfl
   | [_, _, _] => exact absurd hl.symm hn
   | _ :: _ :: _ :: _ :: _ => rfl)
  have hni : ¬ ((n : Int) = 3) := by omega
  have hnb : ((n : Int) == 3) = false := by simp; omega
  clear hx
  go_enter Tryz.func42,Tryz.ntmps42
  go_wp2_with fail
  refine wp_region_walk (by kernel_rfl) (by kernel_rfl) (by kernel_rfl) ?_
  iterate 4
   apply walkM_eq
   case h =>
    intro yq zq wq hC hd
    obtain ⟨hcq,hfq⟩ := bcell hC
    simp at hd
    refine ⟨by go_simp; done, ?_⟩
    go_simp
    first | (go_ints; exact rfl) | (go_ints; rw [if_pos (by omega)]; try exact rfl) | exact rfl | (rw [if_pos (by omega)]; try exact rfl)
  iterate 3
   apply walkM_skip
   case h =>
    intro yq zq wq hC hd
    simp at hd
    go_simp
    done
  iterate 2
   apply walkM_eq
   case h =>
    intro yq zq wq hC hd
    obtain ⟨hcq,hfq⟩ := bcell hC
    simp at hd
    refine ⟨by go_simp; done, ?_⟩
    go_simp
    first | (go_ints; exact rfl) | (go_ints; rw [if_pos (by omega)]; try exact rfl) | exact rfl | (rw [if_pos (by omega)]; try exact rfl)
  iterate 12
   apply walkM_skip
   case h =>
    intro yq zq wq hC hd
    simp at hd
    go_simp
    done
  iterate 2
   apply walkM_eq
   case h =>
    intro yq zq wq hC hd
    obtain ⟨hcq,hfq⟩ := bcell hC
    simp at hd
    refine ⟨by go_simp; done, ?_⟩
    go_simp
    first | (go_ints; exact rfl) | (go_ints; rw [if_pos (by omega)]; try exact rfl) | exact rfl | (rw [if_pos (by omega)]; try exact rfl)
  intro yq zq ux hC hd hdis0
  have hdis := hid hdis0
  clear hdis0
  simp at hd
  go_simp
  clear hd hdis
  go_wp2
  go_ret
  rw [E.out]
  exact ⟨rfl,hC⟩
end Go.Proofs.YtpfipnankjeokaaGreat.X

namespace Go
section
variable {P : Program} (w : World)
theorem run_push (base : Nat) (t ty e : TypeId) (i : TypeInfo) (z : Value) (size bytes : Nat) (ht : P.underlying t = some (.slice e)) (hi : P.info? e = some i) (hz : i.zero = some z)
  (hsize : i.size = size) (hby : i.bytes = bytes) (hzs : z.cells.size = size) (hsz : 0 < size)
  (g n cap : Nat) (xs : List Value) (hown : w.ownsRow base e size (.slice (some ⟨g,0,none⟩) n cap) n xs)
  (a : Addr) (m c : Nat) (news : List Value) (hl : news.length = m * size) (hnews : ∀ j u,news[j]? = some u → w.cell? (a.add j) = some u) (h1 : ∀ u ∈ news,u.oneCell' = true)
  (h63 : n + m ≤ maxLen) (hbytes : (n + m) * bytes ≤ 140737488355328) (hbase : base ≤ w.heap.size) :
  ∃ g' cap' w',(Builtin.append_ #[t,t] ty #[.slice (some ⟨g,0,none⟩) n cap, .slice (some a) m c]).run P w = .ok (.slice (some ⟨g',0,none⟩) (n + m) cap') w' ∧ w'.ownsRow base e size (.slice (some ⟨g',0,none⟩) (n + m) cap') (n + m) (xs ++ news) ∧ w.grownBy w' (some g) ∧ (g' = g ∨ g' = w.heap.size) := by
 obtain ⟨v',w',hr,h2,h3, _⟩ := run_append_own (P := P) w base t ty e i z size bytes ht hi hz hsize hby hzs hsz _ n xs hown a m c news hl hnews h1 h63 hbytes hbase
 by_cases hroom : n + m ≤ cap
 ·rcases hown.2 with ⟨h, _⟩ | ⟨g0,cap0,cur,hv,hb,hg,hnc,hcm,hcs,htake⟩
  ·cases h
  ·cases hv
   have hfit : n * i.size + news.length ≤ cur.size := by rw [hsize,hl,hcs, ← Nat.add_mul]; exact Nat.mul_le_mul_right _ hroom
   have hr2 := run_append_room (P := P) w t ty e i ht hi g n cap cur hg a m c news (by rw [hsize]; exact hl) hnews h1 hroom hfit
   rw [hr] at hr2
   cases hr2
   exact ⟨_, _, _,hr,h2,h3, .inl rfl⟩
 ·have holds : ∀ j u,xs[j]? = some u → w.cell? ((⟨g,0,none⟩ : Addr).add j) = some u := hown.cells (g := g) rfl
  have hr2 := run_append_grow (P := P) w t ty e i z ht hi hz ⟨g,0,none⟩ n cap xs (by rw [hsize]; exact hown.1) holds a m c news (by rw [hsize]; exact hl) hnews (by omega) (by unfold maxLen at h63; omega) (growslice_fits (by omega) (by rw [hby]; exact hbytes))
  rw [hr] at hr2
  cases hr2
  exact ⟨_, _, _,hr,h2,h3, .inr rfl⟩

theorem wpList_push {w : World} {ops : Array Oper} {rest : List Oper} {o : Oper} {a : Act} {Q : Exit → Act → World → Prop} (hgd : o.guard = none) (s x : Operand) (t : TypeId)
  (ho : o.op = .call { callee := .builtin .append,args := #[s,x],argTypes := #[t,t] })
  (base : Nat) (e : TypeId) (i : TypeInfo) (z : Value) (size bytes : Nat) (ht : P.underlying t = some (.slice e)) (hi : P.info? e = some i) (hz : i.zero = some z)
  (hsize : i.size = size) (hby : i.bytes = bytes) (hzs : z.cells.size = size) (hsz : 0 < size)
  (g n cap : Nat) (xs : List Value) (hs : a.eval s = .slice (some ⟨g,0,none⟩) n cap) (hown : w.ownsRow base e size (.slice (some ⟨g,0,none⟩) n cap) n xs)
  (ad : Addr) (m c : Nat) (news : List Value) (hx : a.eval x = .slice (some ad) m c) (hl : news.length = m * size) (hnews : ∀ j u,news[j]? = some u → w.cell? (ad.add j) = some u) (h1 : ∀ u ∈ news,u.oneCell' = true)
  (h63 : n + m ≤ maxLen) (hbytes : (n + m) * bytes ≤ 140737488355328) (hbase : base ≤ w.heap.size)
  (h : ∀ g' cap' w',w'.ownsRow base e size (.slice (some ⟨g',0,none⟩) (n + m) cap') (n + m) (xs ++ news) → w.grownBy w' (some g) → (g' = g ∨ g' = w.heap.size) → wpList P ops Q rest (a.put o.dst (.slice (some ⟨g',0,none⟩) (n + m) cap')) w') : wpList P ops Q (o :: rest) a w := by
 refine wpList_plain hgd fun _ hK => ?_
 obtain ⟨g',cap',w',hr,h2,h3,h4⟩ := run_push (P := P) w base t o.type e i z size bytes ht hi hz hsize hby hzs hsz g n cap xs hown ad m c news hl hnews h1 h63 hbytes hbase
 unfold Oper.wp execOp
 simp only [ho,resolve,invoke,builtin,Sem.run_bind,Sem.run_pure,Result.andThen_ok,List.map_toArray,List.map_cons,List.map_nil,hs,hx,hr]
 exact hK _ _ (h g' cap' w' h2 h3 h4)
end
end Go

namespace Go.XB
open Go.RowKit
def MP.slbox (cs : Array Value) (t : TypeId) : MP := ⟨fun v bs w => ∃ g,v = .slice (some ⟨g,0,none⟩) 1 1 ∧ bs = [g] ∧ w.heap[g]? = some (.cells cs t),fun v bs w w' hb h => by
 obtain ⟨g,e,hz,hg⟩ := h; exact ⟨g,e,hz,(hb.block g (lt_of_get hg)).trans hg⟩⟩
section
variable {P : Program} {l : List Oper} {a0 : Act}
theorem walkM_runD {w0 : World} {F : List DP → Prop} {o : Oper} {os : List Oper} {acc : List DP} (m : DP) (hcg : Cong m (deps o))
  (h : ∀ (y : Nat → Value) (z : Nat → List Nat) (w : World),Below w0.heap.size w0 w → (∀ k ∈ deps o,(acc.getD k (fun _ => MP.eq undef) y).p (y k) (z k) w) →
   Region.wanted o (yielded l.toArray (fillBy l y a0 (deps o)).tmps) = true ∧ ∃ v w',(execOp (fillBy l y a0 (deps o)).eval o).run P w = .ok (.value v) w' ∧ Below w.heap.size w w' ∧ ∃ bs,(m y).p v bs w' ∧ ∀ b ∈ bs,w.heap.size ≤ b ∧ b < w'.heap.size)
  (hr : walkM P l w0 a0 F os (acc ++ [m])) : walkM P l w0 a0 F (o :: os) acc := by
 refine ⟨m,hcg,fun y z w hC hd => ?_,hr⟩
 obtain ⟨h1,v,w',h2,h3⟩ := h y z w hC hd
 rw [if_pos h1]
 unfold gives
 rw [h2]
 exact h3
end
theorem block_cells {w : World} {g : Nat} {arr : Array Value} {t : TypeId} (h : w.heap[g]? = some (.cells arr t)) : ∀ j u,arr.toList[j]? = some u → w.cell? ((⟨g,0,none⟩ : Addr).add j) = some u := by
 intro j u hu
 have e : (⟨g,0,none⟩ : Addr).add j = ⟨g,j,none⟩ := by unfold Addr.add; split <;> simp_all
 rw [e]
 exact (box_cell h (by simpa using hu)).1
end Go.XB
namespace Go.Proofs.YtpfipnankjeokaaGreat.X
open Go.RowKit Go.XB Go.XN
attribute [local go_sem] fillBy opAt deps depOf Region.wanted yielded
attribute [local simp] deps depOf MP.eq MP.agg MP.sl Facts

theorem infoPt : (Tryz.prog.info? 34).map (fun i => (i.zero,i.size,i.bytes)) = some (some (.agg #[.bool false, .slice none 0 0, .slice none 0 0, .bool false, .slice none 0 0, .slice none 0 0]),6,112) := by kernel_rfl
end Go.Proofs.YtpfipnankjeokaaGreat.X
namespace Go.Proofs.YtpfipnankjeokaaGreat.X
open Go.RowKit Go.XB Go.XN
attribute [local go_sem] fillBy opAt deps depOf Region.wanted yielded
attribute [local simp] deps depOf MP.eq MP.agg MP.sl Facts

def mids3 (a b c : TPoint) : List TPoint := [pmid b c,pmid c a,pmid a b]
def midsOf : List TPoint → List TPoint
 | [a,b,c] => if properB [a,b,c] && (mids3 a b c).all ptOkB then mids3 a b c else []
 | _ => []
end Go.Proofs.YtpfipnankjeokaaGreat.X

namespace Go.XN
open Go.XB
structure Q where
 n : Int
 d : Int
def Q.ok (q : Q) : Bool := decide (0 < q.d) && (decide (q.d < 10 ^ 200) && (decide (-(10 ^ 200) < q.n) && decide (q.n < 10 ^ 200)))
def toR (q : Q) : TRat := mkR q.n q.d
def qadd (q r : Q) : Q := ⟨q.n * r.d + r.n * q.d,q.d * r.d⟩
def qsub (q r : Q) : Q := ⟨q.n * r.d - r.n * q.d,q.d * r.d⟩
def qmul (q r : Q) : Q := ⟨q.n * r.n,q.d * r.d⟩
def qneg (q : Q) : Q := ⟨-q.n,q.d⟩
def qinv (q : Q) : Q := ⟨q.d,q.n⟩
def qeq (q r : Q) : Bool := decide (q.n * r.d = r.n * q.d)
def rdiv (r s : TRat) : TRat := if (ratOkB r && ratOkB s) && !s.num.mag.isEmpty then rmul r ⟨⟨s.num.neg,s.den⟩,s.num.mag⟩ else zeroR
end Go.XN
namespace Go.Proofs.YtpfipnankjeokaaGreat.X
open Go.RowKit Go.XB Go.XN

theorem pw24 : (10 : Int) ^ 200 < pw 24 := by decide +kernel
structure Q.Ok (q : Q) : Prop where
 d0 : 0 < q.d
 d1 : q.d < 10 ^ 200
 n0 : -(10 ^ 200) < q.n
 n1 : q.n < 10 ^ 200
theorem rint_V {n : Int} (h0 : -1000000 < n) (h1 : n < 1000000) : RatV (rint n) := by
 have hl : (dig n.natAbs).length ≤ 24 := len_le_iff.2 (by have := pw24; generalize pw 24 = T at *; omega)
 refine ⟨?_, ?_,(by decide : 0 < val [1]),hl,(by decide : [(1 : Int)].length ≤ 24), ?_⟩
 ·rw [bigOkB_iff]
  refine ⟨⟨by show (dig n.natAbs).length ≤ 60; omega,dig_can _⟩,fun h3 e => ?_⟩
  have h4 : n < 0 := by simpa [rint,encI] using h3
  have h5 := val_dig n.natAbs
  have e' : dig n.natAbs = [] := e
  rw [e'] at h5
  simp [val] at h5
  omega
 ·exact (natOkB_iff.1 (by decide : natOkB [1] = true)).2
 ·show Int.gcd _ (val [1]) = 1
  rw [show val [1] = 1 by decide]; exact Int.gcd_one
end Go.Proofs.YtpfipnankjeokaaGreat.X
