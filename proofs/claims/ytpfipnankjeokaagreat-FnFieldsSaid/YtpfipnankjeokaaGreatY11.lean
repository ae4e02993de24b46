/- Part of a claim's proof: texts of this repository's wip,joined by prune.py,without the theorems that the claim does not reach. -/
import Derived.Test.YtpfipnankjeokaaGreatY9
import Derived.Test.YtpfipnankjeokaaGreatY2
import Derived.Test.YtpfipnankjeokaaGreatY10
import Derived.Deep.CutBlock
import Derived.Deep.DeepCutAuto
/- The reference's integers and fractions. No condition. -/
/- The reference's numbers: l02Gcd,BigIntOk,l03Make,BigIntOf. -/
namespace Go.Proofs.YtpfipnankjeokaaGreat.X
open Go.RowKit Go.XB Go.XN
attribute [local go_sem] fillBy opAt deps depOf Region.wanted yielded
attribute [local simp] deps depOf MP.eq MP.agg MP.sl Facts

theorem Own.right_ {w0 w : World} {a b : List Nat} (h : Own w0 w (a ++ b)) : Own w0 w b := ⟨(List.nodup_append.1 h.1).2.1,fun g hg => h.2 g (List.mem_append_right _ hg)⟩

set_option maxHeartbeats 2000000 in
theorem spec_l02Gcd (A B : Option Addr) (n m c d : Nat) (xs ys : List Int) (bs ds : List Nat) (w : World) (hx : Sl w A n c xs bs) (hy : Sl w B m d ys ds) (hcx : XN.Can xs) (hcy : XN.Can ys) (hn : n ≤ 65536) (hm : m ≤ 65536) :
  Calls Tryz.prog 164 #[.slice A n c, .slice B m d] w (GivesSl w (dig (Int.gcd (val xs) (val ys)))) := by
 obtain ⟨i0,hi,hz0,hz1,hz2⟩ := info_parts infoI
 have HX := hid hx
 have HY := hid hy
 have CX := hid hcx
 have CY := hid hcy
 have hn' := hid (Nat.le_trans hn (show 65536 ≤ 1048576 by decide))
 have hm' := hid (Nat.le_trans hm (show 65536 ≤ 1048576 by decide))
 clear hx hy hcx hcy
 go_enter Tryz.func164,Tryz.ntmps164
 go_wp2_with (first
  | (at_builtin; (refine wpList_clone rfl _ _ 28 rfl 3 i0 Tryz.underlying28 hi hz0 hz1 hz2 _ rfl A n c xs bs rfl (Sl.below HX.out (by (with_reducible repeat first | exact Below.refl _ _ | (refine Below.set ?_ ?_ _; rotate_left; (simp <;> omega)) | refine Below.box_ ?_ _ | refine Below.next ?_ (by assumption)))) hn'.out ?_); intro A1 c1 s1 w1 hs1 ho1 hb1)
  | (at_builtin; (refine wpList_clone rfl _ _ 28 rfl 3 i0 Tryz.underlying28 hi hz0 hz1 hz2 _ rfl B m d ys ds rfl (Sl.below HY.out (by (with_reducible repeat first | exact Below.refl _ _ | (refine Below.set ?_ ?_ _; rotate_left; (simp <;> omega)) | refine Below.box_ ?_ _ | refine Below.next ?_ (by assumption)))) hm'.out ?_); intro A2 c2 s2 w2 hs2 ho2 hb2))
 have bb1 : Below w.heap.size w w1 := by (with_reducible repeat first | exact Below.refl _ _ | (refine Below.set ?_ ?_ _; rotate_left; (simp <;> omega)) | refine Below.box_ ?_ _ | refine Below.next ?_ (by assumption))
 have bb2 : Below w.heap.size w w2 := by (with_reducible repeat first | exact Below.refl _ _ | (refine Below.set ?_ ?_ _; rotate_left; (simp <;> omega)) | refine Below.box_ ?_ _ | refine Below.next ?_ (by assumption))
 have hs1' := hid (Sl.below (Sl.below hs1 (show Below w1.heap.size w1 _ from (Below.refl _ _).alloc (Nat.le_refl _) _)) hb2)
 have ho1' := hid (Own.older (Own.below (Own.below ho1 (show Below w1.heap.size w1 _ from (Below.refl _ _).alloc (Nat.le_refl _) _)) hb2) (show w.heap.size ≤ _ by simp))
 have hs2' := hid hs2
 have ho2' := hid (Own.older ho2 (show w.heap.size ≤ _ by have := bb1.size; simp; omega))
 clear hs1 ho1 hs2 ho2 hb1 hb2 bb1
 go_loopg [5,6] (val ys).toNat (fun g s0 s1 wr => ∃ (A B : Option Addr) (n m c d : Nat) (x y : List Int) (bs ds : List Nat),s0 = .slice A n c ∧ s1 = .slice B m d ∧ Hid (Sl wr A n c x bs) ∧ Hid (Own w wr bs) ∧ Hid (Sl wr B m d y ds) ∧ Hid (Own w wr ds) ∧ Hid (XN.Can x) ∧ Hid (XN.Can y) ∧ n ≤ 65536 ∧ m ≤ 65536 ∧ Hid (Int.gcd (val x) (val y) = Int.gcd (val xs) (val ys)) ∧ Hid (val y = g) ∧ Below w.heap.size w wr)
 case atStart => exact ⟨A1,A2,n,m,c1,c2,xs,ys,s1,s2,rfl,rfl,hs1',ho1',hs2',ho2',CX,CY,hn,hm,rfl,(Int.toNat_of_nonneg (val_nonneg CY.out.1)).symm,bb2⟩
 case round =>
  obtain ⟨A,B,n,m,c,d,x,y,bs,ds,rfl,rfl,hx,ox,hy,oy,cx,cy,hn,hm,hg,hk,hb⟩ := hrel
  clear hs1' ho1' hs2' ho2' bb2 hn' hm'
  have hl := hid (show y.length = m from hy.out.1)
  have hlx := hid (show x.length = n from hx.out.1)
  by_cases hm0 : 0 < m
  ·have hyp := hid (cy.out.pos (by intro e; have := hl.out; rw [e] at this; simp at this; omega))
   by_cases hsm : n < 3 ∧ m < 3
   ·have hn3 : (n : Int) < 3 := by omega
    have hm3 : (m : Int) < 3 := by omega
    have X0 := hid (val_nonneg cx.out.1)
    have Y0 := hid (val_nonneg cy.out.1)
    have X1 := hid (show val x ≤ 9223372036854775807 by
     have h1 := val_lt cx.out.1
     have h2 := pw_mono (show x.length ≤ 2 by rw [hlx.out]; omega)
     rw [pw_vals.2.1] at h2; omega)
    have Y1 := hid (show val y ≤ 9223372036854775807 by
     have h1 := val_lt cy.out.1
     have h2 := pw_mono (show y.length ≤ 2 by rw [hl.out]; omega)
     rw [pw_vals.2.1] at h2; omega)
    have hn2 := hid (show n ≤ 2 by omega)
    have hm2 := hid (show m ≤ 2 by omega)
    clear hsm
    go_wp2_with fail
    refine (spec_NatToInt A n c x bs wr hx.out cx.out hn2.out).mono ?_
    rintro _ w3 ⟨rfl,hb3⟩
    have hb3' := Below.next hb hb3
    go_wp2_with fail
    refine (spec_NatToInt B m d y ds w3 (Sl.below hy.out hb3) cy.out hm2.out).mono ?_
    rintro _ w4 ⟨rfl,hb4⟩
    have hb4' := Below.next hb3' hb4
    go_wp2_with fail
    refine (spec_l02Plain (val x) (val y) w4 X0.out Y0.out X1.out Y1.out).mono ?_
    rintro _ w5 ⟨v5,rfl,hown5,hb5⟩
    have hb5' := Below.next hb4' hb5
    rw [hg.out] at hown5
    go_wp2
    go_ret
    exact gives_row (ownsRow_base hown5 hb4'.size) rfl (dig_can _).1.i64 hb5'
   ·have rl := hid (show (dig (val x % val y).toNat).length ≤ m from by
     refine dig_len ?_
     have h1 := Int.emod_lt_of_pos (val x) hyp.out
     have h2 := Int.emod_nonneg (val x) (show val y ≠ 0 by have := hyp.out; omega)
     have h3 := val_lt cy.out.1
     rw [hl.out] at h3
     omega)
    have r1 := hid (show Int.gcd (val y) (val (dig (val x % val y).toNat)) = Int.gcd (val xs) (val ys) by
     rw [val_dig,Int.toNat_of_nonneg (Int.emod_nonneg _ (by have := hyp.out; omega)),gcd_step]; exact hg.out)
    have r2 := hid (show val (dig (val x % val y).toNat) = ((val x % val y).toNat : Int) from val_dig _)
    have rm := hid (show (val x % val y).toNat < gk by
     have h1 := Int.emod_lt_of_pos (val x) hyp.out
     have h2 := hk.out
     have h3 := hyp.out
     omega)
    have CR := hid (dig_can (val x % val y).toNat)
    rcases Nat.lt_or_ge n 3 with h3 | h3
    ·have hn3 : (n : Int) < 3 := by omega
     have hm3 : ¬ ((m : Int) < 3) := by omega
     clear hsm h3
     go_wp2_with fail
     refine (spec_l02Div A B n m c d x y bs ds wr hx.out hy.out cx.out cy.out hn hm0 hm).mono ?_
     rintro _ w1 ⟨A1,n1,c1,b1,A2,n2,c2,b2,rfl,hq,hr,ho,hb1⟩
     have HR := hid hr
     have HO := hid (Own.older (Own.right_ ho) hb.size)
     have HY1 := hid (Sl.below hy.out hb1)
     have OY1 := hid (Own.below oy.out hb1)
     have hb2 : Below w.heap.size w w1 := Below.next hb hb1
     have rn := hid (show n2 ≤ 65536 from Nat.le_trans (by rw [← hr.1]; exact rl.out) hm)
     clear hq hr ho hb hb1
     go_wp2_with fail
     go_roundg (val x % val y).toNat
     case measure => exact rm.out
     case rel => exact ⟨B,A2,m,n2,d,c2,y, _,ds,b2,rfl,rfl,HY1,OY1,HR,HO,cy,CR,hm,rn.out,r1,r2,hb2⟩
    ·have hn3 : ¬ ((n : Int) < 3) := by omega
     clear hsm h3
     go_wp2_with fail
     refine (spec_l02Div A B n m c d x y bs ds wr hx.out hy.out cx.out cy.out hn hm0 hm).mono ?_
     rintro _ w1 ⟨A1,n1,c1,b1,A2,n2,c2,b2,rfl,hq,hr,ho,hb1⟩
     have HR := hid hr
     have HO := hid (Own.older (Own.right_ ho) hb.size)
     have HY1 := hid (Sl.below hy.out hb1)
     have OY1 := hid (Own.below oy.out hb1)
     have hb2 : Below w.heap.size w w1 := Below.next hb hb1
     have rn := hid (show n2 ≤ 65536 from Nat.le_trans (by rw [← hr.1]; exact rl.out) hm)
     clear hq hr ho hb hb1
     go_wp2_with fail
     go_roundg (val x % val y).toNat
     case measure => exact rm.out
     case rel => exact ⟨B,A2,m,n2,d,c2,y, _,ds,b2,rfl,rfl,HY1,OY1,HR,HO,cy,CR,hm,rn.out,r1,r2,hb2⟩
  ·obtain rfl : m = 0 := by omega
   have e := hid (show x = dig (Int.gcd (val xs) (val ys)) by
    rw [← hg.out,show val y = 0 by rw [List.eq_nil_of_length_eq_zero hl.out]; rfl,Int.gcd_zero_right]
    exact (cx.out.dig_natAbs).symm)
   go_wp2
   go_ret
   rw [← e.out]
   exact ⟨A,n,c,bs,rfl,hx.out,ox.out,hb⟩

set_option maxHeartbeats 1000000 in
theorem spec_BigIntOk (v : Value) (x : TBigInt) (bs : List Nat) (w : World) (hx : Agg w v x bs) :
  Calls Tryz.prog 161 #[v] w (Gives w (.bool (bigOkB x))) := by
 obtain ⟨A1,n1,c1,s1,rfl,rfl,hs1⟩ := TBigInt.agg hx
 have H1 := hid hs1
 clear hs1 hx
 have E := hid (show bigOkB x = (natOkB x.mag && (!x.neg || decide (0 < n1))) by
  unfold bigOkB
  congr 1; congr 1
  rw [← H1.out.1]
  cases x.mag <;> simp)
 cases hn : natOkB x.mag
 ·go_enter Tryz.func161,Tryz.ntmps161
  go_wp2_with fail
  have C := spec_NatOk A1 n1 c1 x.mag bs (w.alloc (.cells #[.bool x.neg, .slice A1 n1 c1] 30)) (Sl.below H1.out (by (with_reducible repeat first | exact Below.refl _ _ | (refine Below.set ?_ ?_ _; rotate_left; (simp <;> omega)) | refine Below.box_ ?_ _ | refine Below.next ?_ (by assumption))))
  rw [hn] at C
  refine C.mono ?_
  clear C
  rintro _ w1 ⟨rfl,hb1⟩
  obtain ⟨hc_w1,hf_w1⟩ := bcell hb1
  have hz0_w1 : w.heap.size < w1.heap.size := by have := hb1.size; (try simp at this); omega
  go_wp2
  go_ret
  exact ⟨ret_bool (by rw [E.out,hn]; rfl),by (with_reducible repeat first | exact Below.refl _ _ | (refine Below.set ?_ ?_ _; rotate_left; (simp <;> omega)) | refine Below.box_ ?_ _ | refine Below.next ?_ (by assumption))⟩
 ·have HN := hid hn
  clear hn
  rw [HN.out,Bool.true_and] at E
  cases hg : x.neg
  ·have E2 := hid (show true = bigOkB x by rw [E.out,hg]; rfl)
   clear E
   go_enter Tryz.func161,Tryz.ntmps161
   go_wp2_with fail
   have C := spec_NatOk A1 n1 c1 x.mag bs (w.alloc (.cells #[.bool false, .slice A1 n1 c1] 30)) (Sl.below H1.out (by (with_reducible repeat first | exact Below.refl _ _ | (refine Below.set ?_ ?_ _; rotate_left; (simp <;> omega)) | refine Below.box_ ?_ _ | refine Below.next ?_ (by assumption))))
   rw [HN.out] at C
   refine C.mono ?_
   clear C
   rintro _ w1 ⟨rfl,hb1⟩
   obtain ⟨hc_w1,hf_w1⟩ := bcell hb1
   have hz0_w1 : w.heap.size < w1.heap.size := by have := hb1.size; (try simp at this); omega
   go_wp2
   go_ret
   exact ⟨ret_bool E2.out,by (with_reducible repeat first | exact Below.refl _ _ | (refine Below.set ?_ ?_ _; rotate_left; (simp <;> omega)) | refine Below.box_ ?_ _ | refine Below.next ?_ (by assumption))⟩
  ·have E2 := hid (show decide (0 < n1) = bigOkB x by rw [E.out,hg]; rfl)
   clear E
   go_enter Tryz.func161,Tryz.ntmps161
   go_wp2_with fail
   have C := spec_NatOk A1 n1 c1 x.mag bs (w.alloc (.cells #[.bool true, .slice A1 n1 c1] 30)) (Sl.below H1.out (by (with_reducible repeat first | exact Below.refl _ _ | (refine Below.set ?_ ?_ _; rotate_left; (simp <;> omega)) | refine Below.box_ ?_ _ | refine Below.next ?_ (by assumption))))
   rw [HN.out] at C
   refine C.mono ?_
   clear C
   rintro _ w1 ⟨rfl,hb1⟩
   obtain ⟨hc_w1,hf_w1⟩ := bcell hb1
   have hz0_w1 : w.heap.size < w1.heap.size := by have := hb1.size; (try simp at this); omega
   go_wp2
   go_ret
   exact ⟨ret_bool E2.out,by (with_reducible repeat first | exact Below.refl _ _ | (refine Below.set ?_ ?_ _; rotate_left; (simp <;> omega)) | refine Below.box_ ?_ _ | refine Below.next ?_ (by assumption))⟩

set_option maxHeartbeats 2000000 in
set_option maxRecDepth 10000 in
theorem spec_l03Make (neg : Bool) (A : Option Addr) (n c : Nat) (xs : List Int) (bs : List Nat) (w : World) (hx : Sl w A n c xs bs) (hcx : XN.Can xs) (hn : n ≤ 60) :
  Calls Tryz.prog 167 #[.bool neg, .slice A n c] w (GivesAgg w (⟨neg && decide (0 < n),xs⟩ : TBigInt)) := by
 obtain ⟨i0,hi,hz0,hz1,hz2⟩ := info_parts infoI
 have HX := hid hx
 have hn' := hid (Nat.le_trans hn (show 60 ≤ 1048576 by decide))
 have TL := hid (show (trim xs).length = n by rw [hcx.trim_eq]; exact hx.1)
 clear hx hcx
 cases neg
 ·show Calls _ _ _ w (GivesAgg w (⟨false,xs⟩ : TBigInt))
  go_enter Tryz.func167,Tryz.ntmps167
  go_wp2_with fail
  have C := spec_l02Cap A n c xs bs (w.alloc (.cells #[.bool false, .slice none 0 0] 30)) (Sl.below HX.out (by (with_reducible repeat first | exact Below.refl _ _ | (refine Below.set ?_ ?_ _; rotate_left; (simp <;> omega)) | refine Below.box_ ?_ _ | refine Below.next ?_ (by assumption)))) (by rw [TL.out]; exact hn)
  rw [TL.out] at C
  refine C.mono ?_
  clear C
  rintro _ w1 ⟨rfl,hb1⟩
  obtain ⟨hc_w1,hf_w1⟩ := bcell hb1
  have hz0_w1 : w.heap.size < w1.heap.size := by have := hb1.size; (try simp at this); omega
  have HX1 := hid (Sl.below (Sl.below HX.out (Below.box (.cells #[.bool false, .slice none 0 0] 30))) hb1)
  have hzz : w.heap.size < w1.heap.size + 1 := by omega
  have hsz : w.heap.size + 1 ≤ w1.heap.size := by have := hb1.size; simp at this; omega
  go_wp2_with (at_builtin; (refine wpList_clone rfl _ _ 28 rfl 3 i0 Tryz.underlying28 hi hz0 hz1 hz2 _ rfl A n c xs bs rfl (Sl.below HX1.out (by (with_reducible repeat first | exact Below.refl _ _ | (refine Below.set ?_ ?_ _; rotate_left; (simp <;> omega)) | refine Below.box_ ?_ _ | refine Below.next ?_ (by assumption)))) hn'.out ?_); intro A3 c3 s3 w3 hs3 ho3 hb3; obtain ⟨hc_w3,hf_w3⟩ := bcell hb3; have hz0_w3 : w.heap.size < w3.heap.size := by (have h := hb3.size; simp at h; omega))
  have HS3 := hid hs3
  have HO3 := hid ho3
  clear hs3 ho3
  refine bodyPost_ret (v := .agg #[.bool false, .slice A3 n c3]) (by simp [results,Tryz.results167,go_sem, *]) rfl ?_
  have f := fun (W : World) (ha : Above (w.heap.size + 1) w3 W) => fin_sl (w := w) HS3.out HO3.out (by simp; omega) (by simp; omega) ha
  refine ⟨_,s3,rfl,TBigInt.mkAgg (x := ⟨false,xs⟩) (f _ ?_).1,(f _ ?_).2, ?_⟩
  ·(with_reducible repeat first | exact Above.refl _ _ | (refine Above.set ?_ ?_ _; rotate_left; (simp <;> omega)) | refine Above.box ?_ _ | refine Above.below ?_ (by assumption))
  ·(with_reducible repeat first | exact Above.refl _ _ | (refine Above.set ?_ ?_ _; rotate_left; (simp <;> omega)) | refine Above.box ?_ _ | refine Above.below ?_ (by assumption))
  ·(with_reducible repeat first | exact Below.refl _ _ | (refine Below.set ?_ ?_ _; rotate_left; (simp <;> omega)) | refine Below.box_ ?_ _ | refine Below.next ?_ (by assumption))
 ·rcases Nat.eq_zero_or_pos n with h0 | h0
  ·subst h0
   show Calls _ _ _ w (GivesAgg w (⟨false,xs⟩ : TBigInt))
   go_enter Tryz.func167,Tryz.ntmps167
   go_wp2_with fail
   have C := spec_l02Cap A 0 c xs bs (w.alloc (.cells #[.bool false, .slice none 0 0] 30)) (Sl.below HX.out (by (with_reducible repeat first | exact Below.refl _ _ | (refine Below.set ?_ ?_ _; rotate_left; (simp <;> omega)) | refine Below.box_ ?_ _ | refine Below.next ?_ (by assumption)))) (by rw [TL.out]; exact hn)
   rw [TL.out] at C
   refine C.mono ?_
   clear C
   rintro _ w1 ⟨rfl,hb1⟩
   obtain ⟨hc_w1,hf_w1⟩ := bcell hb1
   have hz0_w1 : w.heap.size < w1.heap.size := by have := hb1.size; (try simp at this); omega
   have HX1 := hid (Sl.below (Sl.below HX.out (Below.box (.cells #[.bool false, .slice none 0 0] 30))) hb1)
   have hzz : w.heap.size < w1.heap.size + 1 := by omega
   have hsz : w.heap.size + 1 ≤ w1.heap.size := by have := hb1.size; simp at this; omega
   go_wp2_with (at_builtin; (refine wpList_clone rfl _ _ 28 rfl 3 i0 Tryz.underlying28 hi hz0 hz1 hz2 _ rfl A 0 c xs bs rfl (Sl.below HX1.out (by (with_reducible repeat first | exact Below.refl _ _ | (refine Below.set ?_ ?_ _; rotate_left; (simp <;> omega)) | refine Below.box_ ?_ _ | refine Below.next ?_ (by assumption)))) hn'.out ?_); intro A3 c3 s3 w3 hs3 ho3 hb3; obtain ⟨hc_w3,hf_w3⟩ := bcell hb3; have hz0_w3 : w.heap.size < w3.heap.size := by (have h := hb3.size; simp at h; omega))
   have HS3 := hid hs3
   have HO3 := hid ho3
   clear hs3 ho3
   refine bodyPost_ret (v := .agg #[.bool false, .slice A3 0 c3]) (by simp [results,Tryz.results167,go_sem, *]) rfl ?_
   have f := fun (W : World) (ha : Above (w.heap.size + 1) w3 W) => fin_sl (w := w) HS3.out HO3.out (by simp; omega) (by simp; omega) ha
   refine ⟨_,s3,rfl,TBigInt.mkAgg (x := ⟨false,xs⟩) (f _ ?_).1,(f _ ?_).2, ?_⟩
   ·(with_reducible repeat first | exact Above.refl _ _ | (refine Above.set ?_ ?_ _; rotate_left; (simp <;> omega)) | refine Above.box ?_ _ | refine Above.below ?_ (by assumption))
   ·(with_reducible repeat first | exact Above.refl _ _ | (refine Above.set ?_ ?_ _; rotate_left; (simp <;> omega)) | refine Above.box ?_ _ | refine Above.below ?_ (by assumption))
   ·(with_reducible repeat first | exact Below.refl _ _ | (refine Below.set ?_ ?_ _; rotate_left; (simp <;> omega)) | refine Below.box_ ?_ _ | refine Below.next ?_ (by assumption))
  ·have e : (true && decide (0 < n)) = true := by simp [h0]
   rw [e]
   go_enter Tryz.func167,Tryz.ntmps167
   go_wp2_with fail
   have C := spec_l02Cap A n c xs bs (w.alloc (.cells #[.bool false, .slice none 0 0] 30)) (Sl.below HX.out (by (with_reducible repeat first | exact Below.refl _ _ | (refine Below.set ?_ ?_ _; rotate_left; (simp <;> omega)) | refine Below.box_ ?_ _ | refine Below.next ?_ (by assumption)))) (by rw [TL.out]; exact hn)
   rw [TL.out] at C
   refine C.mono ?_
   clear C
   rintro _ w1 ⟨rfl,hb1⟩
   obtain ⟨hc_w1,hf_w1⟩ := bcell hb1
   have hz0_w1 : w.heap.size < w1.heap.size := by have := hb1.size; (try simp at this); omega
   have HX1 := hid (Sl.below (Sl.below HX.out (Below.box (.cells #[.bool false, .slice none 0 0] 30))) hb1)
   have hzz : w.heap.size < w1.heap.size + 1 := by omega
   have hsz : w.heap.size + 1 ≤ w1.heap.size := by have := hb1.size; simp at this; omega
   go_wp2_with (at_builtin; (refine wpList_clone rfl _ _ 28 rfl 3 i0 Tryz.underlying28 hi hz0 hz1 hz2 _ rfl A n c xs bs rfl (Sl.below HX1.out (by (with_reducible repeat first | exact Below.refl _ _ | (refine Below.set ?_ ?_ _; rotate_left; (simp <;> omega)) | refine Below.box_ ?_ _ | refine Below.next ?_ (by assumption)))) hn'.out ?_); intro A3 c3 s3 w3 hs3 ho3 hb3; obtain ⟨hc_w3,hf_w3⟩ := bcell hb3; have hz0_w3 : w.heap.size < w3.heap.size := by (have h := hb3.size; simp at h; omega))
   have HS3 := hid hs3
   have HO3 := hid ho3
   clear hs3 ho3
   refine bodyPost_ret (v := .agg #[.bool true, .slice A3 n c3]) (by simp [results,Tryz.results167,go_sem, *]) rfl ?_
   have f := fun (W : World) (ha : Above (w.heap.size + 1) w3 W) => fin_sl (w := w) HS3.out HO3.out (by simp; omega) (by simp; omega) ha
   refine ⟨_,s3,rfl,TBigInt.mkAgg (x := ⟨true,xs⟩) (f _ ?_).1,(f _ ?_).2, ?_⟩
   ·(with_reducible repeat first | exact Above.refl _ _ | (refine Above.set ?_ ?_ _; rotate_left; (simp <;> omega)) | refine Above.box ?_ _ | refine Above.below ?_ (by assumption))
   ·(with_reducible repeat first | exact Above.refl _ _ | (refine Above.set ?_ ?_ _; rotate_left; (simp <;> omega)) | refine Above.box ?_ _ | refine Above.below ?_ (by assumption))
   ·(with_reducible repeat first | exact Below.refl _ _ | (refine Below.set ?_ ?_ _; rotate_left; (simp <;> omega)) | refine Below.box_ ?_ _ | refine Below.next ?_ (by assumption))
end Go.Proofs.YtpfipnankjeokaaGreat.X

/- The reference's numbers: l04One,BigIntOf,RatFromInt,l03Cmp. -/
namespace Go.Proofs.YtpfipnankjeokaaGreat.X
open Go.RowKit Go.XB Go.XN
attribute [local go_sem] fillBy opAt deps depOf Region.wanted yielded
attribute [local simp] deps depOf MP.eq MP.agg MP.sl Facts

set_option maxHeartbeats 1000000 in
theorem spec_l04One (A : Option Addr) (n c : Nat) (xs : List Int) (bs : List Nat) (w : World) (hx : Sl w A n c xs bs) :
  Calls Tryz.prog 163 #[.slice A n c] w (Gives w (.bool (decide (xs = [1])))) := by
 have HL := hid hx.1
 by_cases h1 : n = 1
 ·subst h1
  obtain ⟨b,off,x,rfl,hbl,hx1,hI,hc⟩ := Sl.getInt hx (k := 0) (by decide)
  simp only [Nat.add_zero] at hc
  have e := hid (show (x == 1) = decide (xs = [1]) by
   have h := HL.out
   match xs,h with
   | [y], _ => simp at hx1; subst hx1; simp; rfl)
  clear hx hx1
  go_enter Tryz.func163,Tryz.ntmps163
  go_wp2
  go_ret
  exact ⟨ret_bool e.out,by (with_reducible repeat first | exact Below.refl _ _ | (refine Below.set ?_ ?_ _; rotate_left; (simp <;> omega)) | refine Below.box_ ?_ _ | refine Below.next ?_ (by assumption))⟩
 ·have e := hid (show decide (xs = [1]) = false by
   simp; intro h; apply h1; rw [← HL.out,h]; rfl)
  have hn : ((n : Int) == 1) = false := by simp; omega
  clear hx h1
  go_enter Tryz.func163,Tryz.ntmps163
  go_wp2
  go_ret
  exact ⟨ret_bool e.out.symm,by (with_reducible repeat first | exact Below.refl _ _ | (refine Below.set ?_ ?_ _; rotate_left; (simp <;> omega)) | refine Below.box_ ?_ _ | refine Below.next ?_ (by assumption))⟩

theorem enc_neg (N : Nat) : (⟨true && decide (0 < (dig N).length),dig N⟩ : TBigInt) = encI (-(N : Int)) := by
 obtain ⟨h1,h2⟩ := enc_of (neg := true) (N := N) (v := -(N : Int)) (by simp)
 rw [← h2, ← h1]
theorem enc_pos (N : Nat) : (⟨false && decide (0 < (dig N).length),dig N⟩ : TBigInt) = encI (N : Int) := by
 obtain ⟨h1,h2⟩ := enc_of (neg := false) (N := N) (v := (N : Int)) (by simp)
 rw [← h2, ← h1]

theorem min_can : XN.Can [854775808,223372036,9] := ⟨Lims.cons (by decide) (by decide) (Lims.cons (by decide) (by decide) (Lims.one (by decide) (by decide))),by decide⟩
theorem enc_min : (⟨true && decide (0 < 3), [854775808,223372036,9]⟩ : TBigInt) = encI (-9223372036854775808) := by
 have h : val [854775808,223372036,9] = 9223372036854775808 := by decide
 generalize hN : (9223372036854775808 : Nat) = N
 have hv : val [854775808,223372036,9] = (N : Int) := by rw [h, ← hN]; rfl
 have e : [854775808,223372036,9] = dig N := min_can.of_val hv
 have e2 : (-9223372036854775808 : Int) = -(N : Int) := by rw [← hN]; rfl
 rw [e2, ← enc_neg, ← e]; rfl

set_option maxHeartbeats 1000000 in
set_option maxRecDepth 10000 in
theorem spec_BigIntOf (N : Int) (w : World) (h : I64 N) : Calls Tryz.prog 124 #[.int .i64 N] w (GivesAgg w (encI N)) := by
 have h0 := h.1
 have h1 := h.2
 clear h
 rcases Int.lt_or_le N 0 with hN | hN
 ·by_cases hm : N = -9223372036854775808
  ·subst hm
   have LC := hid min_can
   go_enter Tryz.func124,Tryz.ntmps124
   go_wp2_with fail
   obtain ⟨ls,hls⟩ := row_sl (row_lit (w.alloc (.cells #[.bool false, .slice none 0 0] 30)) [854775808,223372036,9] (by simp [maxLen])) (fun x hx => LC.out.1.i64 x hx)
   rw [show (w.alloc (.cells #[.bool false, .slice none 0 0] 30)).heap.size = w.heap.size + 1 by simp] at hls
   have C := spec_l03Make true (some ⟨w.heap.size + 1,0,none⟩) 3 3 _ ls ((w.alloc (.cells #[.bool false, .slice none 0 0] 30)).alloc (.cells #[.int .i64 854775808, .int .i64 223372036, .int .i64 9] 3)) hls LC.out (by decide)
   have E := hid enc_min
   refine C.mono ?_
   clear C
   rintro _ w2 ⟨v2,s2,rfl,ha2,ho2,hb2⟩
   rw [E.out] at ha2
   obtain ⟨A2,n2,c2, _,rfl,rfl,hs2⟩ := TBigInt.agg ha2
   have HS2 := hid hs2
   have HO2 := hid ho2
   clear hs2 ho2 ha2
   obtain ⟨hc_w2,hf_w2⟩ := bcell hb2
   have hsz2 := hid (show w.heap.size + 1 ≤ ((w.alloc (.cells #[.bool false, .slice none 0 0] 30)).alloc (.cells #[.int .i64 854775808, .int .i64 223372036, .int .i64 9] 3)).heap.size by simp)
   have hz0_w2 : w.heap.size < w2.heap.size := by have := hb2.size; have := hsz2.out; omega
   have hzz1 : w.heap.size < w.heap.size + 1 + 1 := by omega
   go_wp2
   refine bodyPost_ret (v := .agg #[.bool (encI (-9223372036854775808)).neg, .slice A2 n2 c2]) (by simp [results,Tryz.results124,go_sem, *]) rfl ?_
   have f := fun (W : World) (ha : Above (w.heap.size + 1) w2 W) => fin_sl (w := w) HS2.out HO2.out (by have := hsz2.out; omega) hsz2.out ha
   refine ⟨_,s2,rfl,TBigInt.mkAgg (f _ ?_).1,(f _ ?_).2, ?_⟩
   ·(with_reducible repeat first | exact Above.refl _ _ | (refine Above.set ?_ ?_ _; rotate_left; (simp <;> omega)) | refine Above.box ?_ _ | refine Above.below ?_ (by assumption))
   ·(with_reducible repeat first | exact Above.refl _ _ | (refine Above.set ?_ ?_ _; rotate_left; (simp <;> omega)) | refine Above.box ?_ _ | refine Above.below ?_ (by assumption))
   ·(with_reducible repeat first | exact Below.refl _ _ | (refine Below.set ?_ ?_ _; rotate_left; (simp <;> omega)) | refine Below.box_ ?_ _ | refine Below.next ?_ (by assumption))
  ·have hz : (N == -9223372036854775808) = false := by simp; exact hm
   have hm' : -9223372036854775807 ≤ N := by omega
   have hn9 := hid (show -N ≤ 9223372036854775807 by omega)
   have hdl := hid (show (dig (-N).toNat).length ≤ 60 from Nat.le_trans (dig_len (k := 3) (by rw [pw_vals.2.2]; omega)) (by decide))
   have E := hid (show encI (-((-N).toNat : Int)) = encI N by rw [Int.toNat_of_nonneg (by omega),Int.neg_neg])
   go_enter Tryz.func124,Tryz.ntmps124
   go_wp2_with fail
   refine (spec_NatOf (-N) (w.alloc (.cells #[.bool false, .slice none 0 0] 30)) hn9.out).mono ?_
   rintro _ w1 ⟨A1,n1,c1,s1,rfl,hs1,ho1,hb1⟩
   have EL := hid hs1.1
   have HS1 := hid hs1
   clear hs1 ho1
   obtain ⟨hc_w1,hf_w1⟩ := bcell hb1
   have hz0_w1 : w.heap.size < w1.heap.size := by have := hb1.size; (try simp at this); omega
   go_wp2_with fail
   have C := spec_l03Make true A1 n1 c1 _ s1 w1 HS1.out (dig_can _) (by rw [← EL.out]; exact hdl.out)
   refine C.mono ?_
   clear C
   rintro _ w2 ⟨v2,s2,rfl,ha2,ho2,hb2⟩
   rw [← EL.out,enc_neg,E.out] at ha2
   obtain ⟨A2,n2,c2, _,rfl,rfl,hs2⟩ := TBigInt.agg ha2
   have HS2 := hid hs2
   have HO2 := hid ho2
   clear hs2 ho2 ha2
   obtain ⟨hc_w2,hf_w2⟩ := bcell hb2
   have hsz2 := hid (show w.heap.size + 1 ≤ w1.heap.size by omega)
   have hz0_w2 : w.heap.size < w2.heap.size := by have := hb2.size; have := hsz2.out; omega
   have hzz1 : w.heap.size < w.heap.size + 1 + 1 := by omega
   go_wp2
   refine bodyPost_ret (v := .agg #[.bool (encI N).neg, .slice A2 n2 c2]) (by simp [results,Tryz.results124,go_sem, *]) rfl ?_
   have f := fun (W : World) (ha : Above (w.heap.size + 1) w2 W) => fin_sl (w := w) HS2.out HO2.out (by have := hsz2.out; omega) hsz2.out ha
   refine ⟨_,s2,rfl,TBigInt.mkAgg (f _ ?_).1,(f _ ?_).2, ?_⟩
   ·(with_reducible repeat first | exact Above.refl _ _ | (refine Above.set ?_ ?_ _; rotate_left; (simp <;> omega)) | refine Above.box ?_ _ | refine Above.below ?_ (by assumption))
   ·(with_reducible repeat first | exact Above.refl _ _ | (refine Above.set ?_ ?_ _; rotate_left; (simp <;> omega)) | refine Above.box ?_ _ | refine Above.below ?_ (by assumption))
   ·(with_reducible repeat first | exact Below.refl _ _ | (refine Below.set ?_ ?_ _; rotate_left; (simp <;> omega)) | refine Below.box_ ?_ _ | refine Below.next ?_ (by assumption))
 ·have hz : (N == -9223372036854775808) = false := by simp; omega
  have hN' : ¬ (N < 0) := by omega
  have hn9 := hid (show N ≤ 9223372036854775807 by omega)
  have hdl := hid (show (dig N.toNat).length ≤ 60 from Nat.le_trans (dig_len (k := 3) (by rw [pw_vals.2.2]; omega)) (by decide))
  have E := hid (show encI ((N.toNat : Nat) : Int) = encI N by rw [Int.toNat_of_nonneg hN])
  go_enter Tryz.func124,Tryz.ntmps124
  go_wp2_with fail
  refine (spec_NatOf N (w.alloc (.cells #[.bool false, .slice none 0 0] 30)) hn9.out).mono ?_
  rintro _ w1 ⟨A1,n1,c1,s1,rfl,hs1,ho1,hb1⟩
  have EL := hid hs1.1
  have HS1 := hid hs1
  clear hs1 ho1
  obtain ⟨hc_w1,hf_w1⟩ := bcell hb1
  have hz0_w1 : w.heap.size < w1.heap.size := by have := hb1.size; (try simp at this); omega
  go_wp2_with fail
  have C := spec_l03Make false A1 n1 c1 _ s1 w1 HS1.out (dig_can _) (by rw [← EL.out]; exact hdl.out)
  refine C.mono ?_
  clear C
  rintro _ w2 ⟨v2,s2,rfl,ha2,ho2,hb2⟩
  rw [← EL.out,enc_pos,E.out] at ha2
  obtain ⟨A2,n2,c2, _,rfl,rfl,hs2⟩ := TBigInt.agg ha2
  have HS2 := hid hs2
  have HO2 := hid ho2
  clear hs2 ho2 ha2
  obtain ⟨hc_w2,hf_w2⟩ := bcell hb2
  have hsz2 := hid (show w.heap.size + 1 ≤ w1.heap.size by omega)
  have hz0_w2 : w.heap.size < w2.heap.size := by have := hb2.size; have := hsz2.out; omega
  have hzz1 : w.heap.size < w.heap.size + 1 + 1 := by omega
  go_wp2
  refine bodyPost_ret (v := .agg #[.bool (encI N).neg, .slice A2 n2 c2]) (by simp [results,Tryz.results124,go_sem, *]) rfl ?_
  have f := fun (W : World) (ha : Above (w.heap.size + 1) w2 W) => fin_sl (w := w) HS2.out HO2.out (by have := hsz2.out; omega) hsz2.out ha
  refine ⟨_,s2,rfl,TBigInt.mkAgg (f _ ?_).1,(f _ ?_).2, ?_⟩
  ·(with_reducible repeat first | exact Above.refl _ _ | (refine Above.set ?_ ?_ _; rotate_left; (simp <;> omega)) | refine Above.box ?_ _ | refine Above.below ?_ (by assumption))
  ·(with_reducible repeat first | exact Above.refl _ _ | (refine Above.set ?_ ?_ _; rotate_left; (simp <;> omega)) | refine Above.box ?_ _ | refine Above.below ?_ (by assumption))
  ·(with_reducible repeat first | exact Below.refl _ _ | (refine Below.set ?_ ?_ _; rotate_left; (simp <;> omega)) | refine Below.box_ ?_ _ | refine Below.next ?_ (by assumption))
end Go.Proofs.YtpfipnankjeokaaGreat.X

/- The reference's fractions: l04Low. -/
namespace Go.Proofs.YtpfipnankjeokaaGreat.X
open Go.RowKit Go.XB Go.XN
attribute [local go_sem] fillBy opAt deps depOf Region.wanted yielded
attribute [local simp] deps depOf MP.eq MP.agg MP.sl Facts

def sval (neg : Bool) (xs : List Int) : Int := if neg then -val xs else val xs
theorem low_mk {neg : Bool} {xs : List Int} {D : Int} (hc : XN.Can xs) (hD : 0 < D) :
  mkR (sval neg xs) D = if (dig (val xs / (Int.gcd (val xs) D : Nat)).toNat).length ≤ 24 ∧ (dig (D / (Int.gcd (val xs) D : Nat)).toNat).length ≤ 24 then
   ⟨⟨neg && decide (0 < (dig (val xs / (Int.gcd (val xs) D : Nat)).toNat).length),dig (val xs / (Int.gcd (val xs) D : Nat)).toNat⟩,dig (D / (Int.gcd (val xs) D : Nat)).toNat⟩ else zeroR := by
 have hg := gcd_pos_right (a := val xs) hD
 have e1 : sval neg xs = ival ⟨neg && decide (xs ≠ []),xs⟩ := by
  unfold sval ival
  by_cases h : xs = []
  ·subst h; cases neg <;> simp [val]
  ·cases neg <;> simp [h]
 have e2 : (neg && decide (0 < (dig (val xs / (Int.gcd (val xs) D : Nat)).toNat).length)) = (neg && decide (xs ≠ [])) := by
  congr 1
  by_cases h : xs = []
  ·subst h
   have : val ([] : List Int) = 0 := rfl
   rw [this,Int.zero_ediv]; simp; rfl
  ·have hp := hc.pos h
   have hq : 0 < val xs / (Int.gcd (val xs) D : Nat) := Int.ediv_pos_of_pos_of_dvd hp (by omega) (Int.gcd_dvd_left _ _)
   have : dig (val xs / (Int.gcd (val xs) D : Nat)).toNat ≠ [] := by rw [Ne,dig_nil]; omega
   simp [h,List.length_pos_iff.2 this]
 rw [e1,red_mk (x := ⟨neg && decide (xs ≠ []),xs⟩) hc (by intro h; simp at h; exact h.2) hD,e2]

set_option maxHeartbeats 4000000 in
set_option maxRecDepth 10000 in
theorem spec_l04Low (neg : Bool) (A B : Option Addr) (n m c d : Nat) (xs ys : List Int) (bs ds : List Nat) (w : World) (hx : Sl w A n c xs bs) (hy : Sl w B m d ys ds) (hcx : XN.Can xs) (hcy : XN.Can ys) (hm0 : 0 < m) (hn : n ≤ 65536) (hm : m ≤ 65536) :
  Calls Tryz.prog 166 #[.bool neg, .slice A n c, .slice B m d] w (GivesAgg w (mkR (sval neg xs) (val ys))) := by
 obtain ⟨i0,hi,hz0,hz1,hz2⟩ := info_parts infoI
 have HX := hid hx
 have HY := hid hy
 have CX := hid hcx
 have CY := hid hcy
 have TX := hid (show (trim xs).length = n by rw [hcx.trim_eq]; exact hx.1)
 have TY := hid (show (trim ys).length = m by rw [hcy.trim_eq]; exact hy.1)
 have HD := hid (hcy.pos (by intro e; rw [← hy.1,e] at hm0; simp at hm0))
 have MK := hid (low_mk (neg := neg) hcx HD.out)
 have PX := hid (val_nonneg hcx.1)
 have HG := hid (gcd_pos_right (a := val xs) HD.out)
 have hz : ((m : Int) == 0) = false := by simp; omega
 clear hx hy hcx hcy
 go_enter Tryz.func166,Tryz.ntmps166
 go_wp2_with fail
 have C := spec_l02Trim A n c xs bs (w.alloc (.cells #[.bool false, .slice none 0 0, .slice none 0 0] 32)) (Sl.below HX.out (by (with_reducible repeat first | exact Below.refl _ _ | (refine Below.set ?_ ?_ _; rotate_left; (simp <;> omega)) | refine Below.box_ ?_ _ | refine Below.next ?_ (by assumption))))
 rw [TX.out] at C
 refine C.mono ?_
 clear C
 rintro _ w1 ⟨rfl,hb1⟩
 go_wp2_with fail
 have C := spec_l02Trim B m d ys ds w1 (Sl.below HY.out (Below.next (by (with_reducible repeat first | exact Below.refl _ _ | (refine Below.set ?_ ?_ _; rotate_left; (simp <;> omega)) | refine Below.box_ ?_ _ | refine Below.next ?_ (by assumption))) hb1))
 rw [TY.out] at C
 refine C.mono ?_
 clear C
 rintro _ w2 ⟨rfl,hb2⟩
 have bb2 := Below.next hb1 hb2
 have HX2 := hid (Sl.below (Sl.below HX.out (Below.box (.cells #[.bool false, .slice none 0 0, .slice none 0 0] 32))) bb2)
 have HY2 := hid (Sl.below (Sl.below HY.out (Below.box (.cells #[.bool false, .slice none 0 0, .slice none 0 0] 32))) bb2)
 clear hb1 hb2 HX HY
 go_wp2_with fail
 obtain ⟨b1,hb1⟩ : ∃ b,b = decide (ys = [1]) := ⟨_,rfl⟩
 have C := spec_l04One B m d ys ds w2 HY2.out
 rw [← hb1] at C
 have HB1 := hid hb1
 clear hb1
 refine C.mono ?_
 clear C
 rintro _ w3 ⟨rfl,hb3⟩
 have HX3 := hid (Sl.below HX2.out hb3)
 have HY3 := hid (Sl.below HY2.out hb3)
 have bb3 := Below.next bb2 hb3
 clear HX2 HY2 bb2 hb3
 go_upto_if 20 with fail
 go_cut [7,8] (fun a b wx => ∃ (A7 B8 : Option Addr) (n7 c7 m8 d8 : Nat) (s7 s8 : List Nat),a = .slice A7 n7 c7 ∧ b = .slice B8 m8 d8 ∧ Hid (Sl wx A7 n7 c7 (dig (val xs / (Int.gcd (val xs) (val ys) : Nat)).toNat) s7) ∧ Hid (Sl wx B8 m8 d8 (dig (val ys / (Int.gcd (val xs) (val ys) : Nat)).toNat) s8) ∧ Below (w.alloc (.cells #[.bool false, .slice none 0 0, .slice none 0 0] 32)).heap.size (w.alloc (.cells #[.bool false, .slice none 0 0, .slice none 0 0] 32)) wx)
 case first =>
  by_cases hg1 : Int.gcd (val xs) (val ys) = 1
  ·have EX := hid (show dig (val xs / (Int.gcd (val xs) (val ys) : Nat)).toNat = xs by rw [hg1,Int.natCast_one,Int.ediv_one]; exact CX.out.eq_dig.symm)
   have EY := hid (show dig (val ys / (Int.gcd (val xs) (val ys) : Nat)).toNat = ys by rw [hg1,Int.natCast_one,Int.ediv_one]; exact CY.out.eq_dig.symm)
   have HG1 := hid hg1
   clear hg1
   cases b1
   rotate_left
   ·go_wp2_with fail
    go_meet
    exact ⟨A,B,n,c,m,d,bs,ds,rfl,rfl,by rw [EX.out]; exact HX3,by rw [EY.out]; exact HY3,bb3⟩
   ·have G1 := hid (show decide (dig (Int.gcd (val xs) (val ys)) = [1]) = true by rw [HG1.out]; rfl)
    go_wp2_with fail
    refine (spec_l02Gcd A B n m c d xs ys bs ds w3 HX3.out HY3.out CX.out CY.out hn hm).mono ?_
    rintro _ w4 ⟨A4,n4,c4,s4,rfl,hs4,ho4,hb4⟩
    have HS4 := hid hs4
    have HX4 := hid (Sl.below HX3.out hb4)
    have HY4 := hid (Sl.below HY3.out hb4)
    have bb4 := Below.next bb3 hb4
    clear hs4 ho4 hb4
    go_wp2_with fail
    have C := spec_l04One A4 n4 c4 _ s4 w4 HS4.out
    rw [G1.out] at C
    refine C.mono ?_
    clear C
    rintro _ w5 ⟨rfl,hb5⟩
    have HX5 := hid (Sl.below HX4.out hb5)
    have HY5 := hid (Sl.below HY4.out hb5)
    have bb5 := Below.next bb4 hb5
    go_wp2_with fail
    go_meet
    exact ⟨A,B,n,c,m,d,bs,ds,rfl,rfl,by rw [EX.out]; exact HX5,by rw [EY.out]; exact HY5,bb5⟩
  ·have Y1 : b1 = false := by
    rw [HB1.out]; simp; intro h; apply hg1; rw [h]; show Int.gcd (val xs) 1 = 1; simp
   subst Y1
   have GV := hid (show val (dig (Int.gcd (val xs) (val ys))) = (Int.gcd (val xs) (val ys) : Nat) from val_dig _)
   have G1 := hid (show decide (dig (Int.gcd (val xs) (val ys)) = [1]) = false by
    simp; intro h; apply hg1
    have := GV.out
    rw [h] at this
    have h2 : val [1] = 1 := rfl
    omega)
   have GL := hid (show (dig (Int.gcd (val xs) (val ys))).length ≤ 65536 from Nat.le_trans (dig_len (k := m) (by
    have h1 := Int.le_of_dvd HD.out (Int.gcd_dvd_right (val xs) (val ys))
    have h2 := val_lt CY.out.1
    rw [show ys.length = m by rw [← TY.out,CY.out.trim_eq]] at h2
    omega)) hm)
   have GN := hid (show 0 < (dig (Int.gcd (val xs) (val ys))).length from List.length_pos_iff.2 (by rw [Ne,dig_nil]; have := HG.out; omega))
   clear hg1
   go_wp2_with fail
   refine (spec_l02Gcd A B n m c d xs ys bs ds w3 HX3.out HY3.out CX.out CY.out hn hm).mono ?_
   rintro _ w4 ⟨A4,n4,c4,s4,rfl,hs4,ho4,hb4⟩
   have HS4 := hid hs4
   have n4l := hid (show n4 ≤ 65536 by rw [← hs4.1]; exact GL.out)
   have n4p := hid (show 0 < n4 by rw [← hs4.1]; exact GN.out)
   have HX4 := hid (Sl.below HX3.out hb4)
   have HY4 := hid (Sl.below HY3.out hb4)
   have bb4 := Below.next bb3 hb4
   clear hs4 ho4 hb4
   go_wp2_with fail
   have C := spec_l04One A4 n4 c4 _ s4 w4 HS4.out
   rw [G1.out] at C
   refine C.mono ?_
   clear C
   rintro _ w5 ⟨rfl,hb5⟩
   have HS5 := hid (Sl.below HS4.out hb5)
   have HX5 := hid (Sl.below HX4.out hb5)
   have HY5 := hid (Sl.below HY4.out hb5)
   have bb5 := Below.next bb4 hb5
   clear HX4 HY4 bb4 HS4 hb5
   go_wp2_with fail
   refine (spec_l02Div A A4 n n4 c c4 xs _ bs s4 w5 HX5.out HS5.out CX.out (dig_can _) hn n4p.out n4l.out).mono ?_
   rintro _ w6 ⟨Aq,nq,cq,sq,Ar,nr,cr,sr,rfl,hq,hr,ho,hb6⟩
   rw [GV.out] at hq
   have HQ6 := hid hq
   have HS6 := hid (Sl.below HS5.out hb6)
   have HY6 := hid (Sl.below HY5.out hb6)
   have bb6 := Below.next bb5 hb6
   clear hq hr ho hb6 HX5 HS5 HY5 bb5
   go_wp2_with fail
   refine (spec_l02Div B A4 m n4 d c4 ys _ ds s4 w6 HY6.out HS6.out CY.out (dig_can _) hm n4p.out n4l.out).mono ?_
   rintro _ w7 ⟨Ap,np,cp,sp,Ar2,nr2,cr2,sr2,rfl,hp,hr2,ho2,hb7⟩
   rw [GV.out] at hp
   have HP7 := hid hp
   have HQ7 := hid (Sl.below HQ6.out hb7)
   have bb7 := Below.next bb6 hb7
   clear hp hr2 ho2 hb7 HQ6 HS6 HY6 bb6
   go_wp2_with fail
   go_meet
   exact ⟨Aq,Ap,nq,cq,np,cp,sq,sp,rfl,rfl,HQ7,HP7,bb7⟩
 case rest =>
  obtain ⟨A7,B8,n7,c7,m8,d8,s7,s8,rfl,rfl,H7,H8,bb⟩ := hcut
  have CA := hid (dig_can (val xs / (Int.gcd (val xs) (val ys) : Nat)).toNat)
  have CB := hid (dig_can (val ys / (Int.gcd (val xs) (val ys) : Nat)).toNat)
  generalize dig (val xs / (Int.gcd (val xs) (val ys) : Nat)).toNat = X at *
  generalize dig (val ys / (Int.gcd (val xs) (val ys) : Nat)).toNat = Y at *
  have LA := hid (show X.length = n7 from H7.out.1)
  have LB := hid (show Y.length = m8 from H8.out.1)
  clear HG PX HD TX TY CX CY HB1 hz hn hm hm0
  obtain ⟨hc_wc,hf_wc⟩ := bcell bb
  have hz0_wc : w.heap.size < wc.heap.size := by have := bb.size; (try simp at this); omega
  rcases Nat.lt_or_ge 24 n7 with h7 | h7
  ·have E := hid (show mkR (sval neg xs) (val ys) = zeroR by rw [MK.out,LA.out,if_neg (by omega)])
   have z1 : (24 : Int) < n7 := by omega
   clear h7 MK
   go_wp2
   refine bodyPost_ret (v := .agg #[.bool false, .slice none 0 0, .slice none 0 0]) (by simp [results,Tryz.results166,go_sem, *]) rfl ?_
   rw [E.out]
   exact gives_zero (by (with_reducible repeat first | exact Below.refl _ _ | (refine Below.set ?_ ?_ _; rotate_left; (simp <;> omega)) | refine Below.box_ ?_ _ | refine Below.next ?_ (by assumption)))
  rcases Nat.lt_or_ge 24 m8 with h8 | h8
  ·have E := hid (show mkR (sval neg xs) (val ys) = zeroR by rw [MK.out,LA.out,LB.out,if_neg (by omega)])
   have z1 : ¬ ((24 : Int) < n7) := by omega
   have z2 : (24 : Int) < m8 := by omega
   clear h7 h8 MK
   go_wp2
   refine bodyPost_ret (v := .agg #[.bool false, .slice none 0 0, .slice none 0 0]) (by simp [results,Tryz.results166,go_sem, *]) rfl ?_
   rw [E.out]
   exact gives_zero (by (with_reducible repeat first | exact Below.refl _ _ | (refine Below.set ?_ ?_ _; rotate_left; (simp <;> omega)) | refine Below.box_ ?_ _ | refine Below.next ?_ (by assumption)))
  have E := hid (show mkR (sval neg xs) (val ys) = ⟨⟨neg && decide (0 < n7),X⟩,Y⟩ by rw [MK.out,LA.out,LB.out,if_pos ⟨h7,h8⟩])
  have z1 : ¬ ((24 : Int) < n7) := by omega
  have z2 : ¬ ((24 : Int) < m8) := by omega
  have h60 := hid (show n7 ≤ 60 by omega)
  have hm8 := hid (show m8 ≤ 1048576 by omega)
  clear h7 h8 MK
  go_wp2_with fail
  refine (spec_l03Make neg A7 n7 c7 X s7 wc H7.out CA.out h60.out).mono ?_
  rintro _ w3 ⟨v3,s3,rfl,ha3,ho3,hb3⟩
  obtain ⟨A9,n9,c9, _,rfl,rfl,hs9⟩ := TBigInt.agg ha3
  have HS9 := hid hs9
  have HO9 := hid ho3
  have H83 := hid (Sl.below H8.out hb3)
  have hwz := hid (show w.heap.size + 1 ≤ wc.heap.size by omega)
  clear hs9 ho3 ha3
  obtain ⟨hc_w3,hf_w3⟩ := bcell hb3
  have hz0_w3 : w.heap.size < w3.heap.size := by have := hb3.size; (try simp at this); omega
  have hzz : w.heap.size < w3.heap.size + 1 := by omega
  go_wp2_with (at_builtin; (refine wpList_clone rfl _ _ 28 rfl 3 i0 Tryz.underlying28 hi hz0 hz1 hz2 _ rfl B8 m8 d8 Y s8 rfl (Sl.below H83.out (by (with_reducible repeat first | exact Below.refl _ _ | (refine Below.set ?_ ?_ _; rotate_left; (simp <;> omega)) | refine Below.box_ ?_ _ | refine Below.next ?_ (by assumption)))) hm8.out ?_); intro A4 c4 s4 w4 hs4 ho4 hb4; obtain ⟨hc_w4,hf_w4⟩ := bcell hb4; have hz0_w4 : w.heap.size < w4.heap.size := by (have h := hb4.size; simp at h; omega))
  have HS4 := hid hs4
  have HO4 := hid ho4
  have HS9' := hid (Sl.below (Sl.below HS9.out (show Below w3.heap.size w3 _ from Below.box (.cells #[] 3))) hb4)
  have HO9' := hid (Own.below (Own.below HO9.out (show Below w3.heap.size w3 _ from Below.box (.cells #[] 3))) hb4)
  have AP := hid (apart_of_lt (N := w3.heap.size) (b2 := s4) HS9.out.lt (fun b hb => by have := (HO4.out.2 b hb).1; simp at this; omega))
  refine bodyPost_ret (v := .agg #[.bool (neg && decide (0 < n7)), .slice A9 n9 c9, .slice A4 m8 c4]) (by simp [results,Tryz.results166,go_sem, *]) rfl ?_
  rw [E.out]
  have f1 := fun (W : World) (ha : Above (w.heap.size + 1) w4 W) => fin_sl (w := w) HS9'.out HO9'.out (by have := hwz.out; omega) hwz.out ha
  have f2 := fun (W : World) (ha : Above (w.heap.size + 1) w4 W) => fin_sl (w := w) HS4.out HO4.out (by simp; omega) (by simp; omega) ha
  refine rat_fin (x := ⟨⟨neg && decide (0 < n7),X⟩,Y⟩) (f1 _ ?_) (f2 _ ?_) AP.out ?_
  ·(with_reducible repeat first | exact Above.refl _ _ | (refine Above.set ?_ ?_ _; rotate_left; (simp <;> omega)) | refine Above.box ?_ _ | refine Above.below ?_ (by assumption))
  ·(with_reducible repeat first | exact Above.refl _ _ | (refine Above.set ?_ ?_ _; rotate_left; (simp <;> omega)) | refine Above.box ?_ _ | refine Above.below ?_ (by assumption))
  ·(with_reducible repeat first | exact Below.refl _ _ | (refine Below.set ?_ ?_ _; rotate_left; (simp <;> omega)) | refine Below.box_ ?_ _ | refine Below.next ?_ (by assumption))
end Go.Proofs.YtpfipnankjeokaaGreat.X

/- The reference's fractions: RatFromInt,RatOk. -/
namespace Go.Proofs.YtpfipnankjeokaaGreat.X
open Go.RowKit Go.XB Go.XN
attribute [local go_sem] fillBy opAt deps depOf Region.wanted yielded
attribute [local simp] deps depOf MP.eq MP.agg MP.sl Facts

theorem heap_alloc_old' (w : World) (o : Obj) (k : Nat) (h : k < w.heap.size) : (w.alloc o).heap[k]? = w.heap[k]? := (World.grownBy_alloc w o none).block k h (by simp)
theorem Above.alloc2 {lo : Nat} {w W : World} {o : Obj} (h : Above lo w W) (hs : W.heap.size = w.heap.size) : Above lo (w.alloc o) (W.alloc o) := by
 refine ⟨by simp [hs],fun b hb hl => ?_⟩
 simp at hl
 rcases Nat.lt_or_ge b w.heap.size with h1 | h1
 ·rw [heap_alloc_old' W o b (by omega),heap_alloc_old' w o b h1]; exact h.block b hb h1
 ·have e : b = w.heap.size := by omega
  have e1 := heap_alloc_new W o
  rw [hs] at e1
  rw [e,e1,heap_alloc_new w o]
theorem lit_sl (w : World) (xs : List Int) (hm : xs.length ≤ maxLen) (hi : ∀ x ∈ xs,I64 x) :
  ∃ bs,Sl (w.alloc (.cells (xs.map (.int .i64)).toArray 3)) (some ⟨w.heap.size,0,none⟩) xs.length xs.length xs bs ∧ Own w (w.alloc (.cells (xs.map (.int .i64)).toArray 3)) bs := by
 obtain ⟨A',n',c',bs',e',hs',ho', _⟩ := gives_row (row_lit w xs hm) rfl hi (Below.box _)
 injection e' with e1
 injection e1 with e2 e3 e4
 subst e2; subst e3; subst e4
 exact ⟨bs',hs',ho'⟩

set_option maxHeartbeats 1000000 in
set_option maxRecDepth 10000 in
theorem spec_RatFromInt (N : Int) (w : World) (h : I64 N) : Calls Tryz.prog 120 #[.int .i64 N] w (GivesAgg w (rint N)) := by
 go_enter Tryz.func120,Tryz.ntmps120
 go_wp2_with fail
 refine (spec_BigIntOf N _ h).mono ?_
 rintro _ w1 ⟨v1,s1,rfl,ha1,ho1,hb1⟩
 obtain ⟨A1,n1,c1, _,rfl,rfl,hs1⟩ := TBigInt.agg ha1
 have HS1 := hid hs1
 have HO1 := hid ho1
 clear hs1 ho1 ha1
 obtain ⟨hc_w1,hf_w1⟩ := bcell hb1
 have hz0_w1 : w.heap.size < w1.heap.size := by have := hb1.size; (try simp at this); omega
 have hwz := hid (show w.heap.size + 1 ≤ w1.heap.size by omega)
 have hzz : w.heap.size < w1.heap.size + 1 := by omega
 obtain ⟨s2,hs2,ho2⟩ := lit_sl w1 [1] (by simp [maxLen]) (by simp [I64])
 have HS2 := hid hs2
 have HO2 := hid ho2
 clear hs2 ho2
 go_wp2
 have AP := hid (apart_of_lt (N := w1.heap.size) (b2 := s2) HS1.out.lt (fun b hb => (HO2.out.2 b hb).1))
 refine bodyPost_ret (v := .agg #[.bool (encI N).neg, .slice A1 n1 c1, .slice (some ⟨w1.heap.size,0,none⟩) 1 1]) (by simp [results,Tryz.results120,go_sem, *]) rfl ?_
 have f1 := fun (W : World) (ha : Above (w.heap.size + 1) w1 W) => fin_sl (w := w) HS1.out HO1.out (by simp) (by simp) ha
 have f2 := fun (W : World) (ha : Above (w.heap.size + 1) (w1.alloc (.cells #[.int .i64 1] 3)) W) => fin_sl (w := w) (A := some ⟨w1.heap.size,0,none⟩) (n := 1) (c := 1) (xs := [(1 : Int)]) HS2.out HO2.out (by have := hwz.out; omega) hwz.out ha
 refine rat_fin (x := rint N) (f1 _ ?_) (f2 _ ?_) AP.out ?_
 ·(with_reducible repeat first | exact Above.refl _ _ | (refine Above.set ?_ ?_ _; rotate_left; (simp <;> omega)) | refine Above.box ?_ _ | refine Above.below ?_ (by assumption))
 ·refine Above.alloc2 ?_ (by simp)
  (with_reducible repeat first | exact Above.refl _ _ | (refine Above.set ?_ ?_ _; rotate_left; (simp <;> omega)) | refine Above.box ?_ _ | refine Above.below ?_ (by assumption))
 ·(with_reducible repeat first | exact Below.refl _ _ | (refine Below.set ?_ ?_ _; rotate_left; (simp <;> omega)) | refine Below.box_ ?_ _ | refine Below.next ?_ (by assumption))

set_option maxHeartbeats 2000000 in
set_option maxRecDepth 10000 in
theorem spec_RatOk (v : Value) (x : TRat) (b : List Nat) (w : World) (hx : Agg w v x b) :
  Calls Tryz.prog 121 #[v] w (Gives w (.bool (ratOkB x))) := by
 obtain ⟨A1,n1,c1,s1,A2,n2,c2,s2,rfl,rfl,hs1,hs2⟩ := TRat.agg hx
 have H1 := hid hs1; have H2 := hid hs2
 have L1 := hid hs1.1; have L2 := hid hs2.1
 clear hs1 hs2 hx
 cases hb : bigOkB x.num
 ·have HB := hid hb
  have E := hid (show false = ratOkB x by unfold ratOkB; rw [hb]; rfl)
  clear hb
  go_enter Tryz.func121,Tryz.ntmps121
  go_wp2_with fail
  have C := spec_BigIntOk _ x.num s1 (w.alloc (.cells #[.bool x.num.neg, .slice A1 n1 c1, .slice A2 n2 c2] 32)) (TBigInt.mkAgg (Sl.below H1.out (by (with_reducible repeat first | exact Below.refl _ _ | (refine Below.set ?_ ?_ _; rotate_left; (simp <;> omega)) | refine Below.box_ ?_ _ | refine Below.next ?_ (by assumption)))))
  rw [HB.out] at C
  refine C.mono ?_
  clear C
  rintro _ w1 ⟨rfl,hb1⟩
  obtain ⟨hc_w1,hf_w1⟩ := bcell hb1
  have hz0_w1 : w.heap.size < w1.heap.size := by have := hb1.size; (try simp at this); omega
  go_wp2
  go_ret
  exact ⟨ret_bool E.out,by (with_reducible repeat first | exact Below.refl _ _ | (refine Below.set ?_ ?_ _; rotate_left; (simp <;> omega)) | refine Below.box_ ?_ _ | refine Below.next ?_ (by assumption))⟩
 have HB := hid hb
 cases hn : natOkB x.den
 ·have HN := hid hn
  have E := hid (show false = ratOkB x by unfold ratOkB; rw [hb,hn]; rfl)
  clear hb hn
  go_enter Tryz.func121,Tryz.ntmps121
  go_wp2_with fail
  have C := spec_BigIntOk _ x.num s1 (w.alloc (.cells #[.bool x.num.neg, .slice A1 n1 c1, .slice A2 n2 c2] 32)) (TBigInt.mkAgg (Sl.below H1.out (by (with_reducible repeat first | exact Below.refl _ _ | (refine Below.set ?_ ?_ _; rotate_left; (simp <;> omega)) | refine Below.box_ ?_ _ | refine Below.next ?_ (by assumption)))))
  rw [HB.out] at C
  refine C.mono ?_
  clear C
  rintro _ w1 ⟨rfl,hb1⟩
  obtain ⟨hc_w1,hf_w1⟩ := bcell hb1
  have hz0_w1 : w.heap.size < w1.heap.size := by have := hb1.size; (try simp at this); omega
  go_wp2_with fail
  have C := spec_NatOk A2 n2 c2 x.den s2 w1 (Sl.below H2.out (by (with_reducible repeat first | exact Below.refl _ _ | (refine Below.set ?_ ?_ _; rotate_left; (simp <;> omega)) | refine Below.box_ ?_ _ | refine Below.next ?_ (by assumption))))
  rw [HN.out] at C
  refine C.mono ?_
  clear C
  rintro _ w2 ⟨rfl,hb2⟩
  obtain ⟨hc_w2,hf_w2⟩ := bcell hb2
  have hz0_w2 : w.heap.size < w2.heap.size := by have := hb2.size; (try simp at this); omega
  go_wp2
  go_ret
  exact ⟨ret_bool E.out,by (with_reducible repeat first | exact Below.refl _ _ | (refine Below.set ?_ ?_ _; rotate_left; (simp <;> omega)) | refine Below.box_ ?_ _ | refine Below.next ?_ (by assumption))⟩
 have HN := hid hn
 have CB := hid (bigOkB_iff.1 hb).1
 have CN := hid (natOkB_iff.1 hn)
 rcases Nat.eq_zero_or_pos n2 with h0 | h0
 ·subst h0
  have E := hid (show false = ratOkB x by unfold ratOkB; rw [hb,hn,List.eq_nil_of_length_eq_zero L2.out]; rfl)
  clear hb hn
  go_enter Tryz.func121,Tryz.ntmps121
  go_wp2_with fail
  have C := spec_BigIntOk _ x.num s1 (w.alloc (.cells #[.bool x.num.neg, .slice A1 n1 c1, .slice A2 0 c2] 32)) (TBigInt.mkAgg (Sl.below H1.out (by (with_reducible repeat first | exact Below.refl _ _ | (refine Below.set ?_ ?_ _; rotate_left; (simp <;> omega)) | refine Below.box_ ?_ _ | refine Below.next ?_ (by assumption)))))
  rw [HB.out] at C
  refine C.mono ?_
  clear C
  rintro _ w1 ⟨rfl,hb1⟩
  obtain ⟨hc_w1,hf_w1⟩ := bcell hb1
  have hz0_w1 : w.heap.size < w1.heap.size := by have := hb1.size; (try simp at this); omega
  go_wp2_with fail
  have C := spec_NatOk A2 0 c2 x.den s2 w1 (Sl.below H2.out (by (with_reducible repeat first | exact Below.refl _ _ | (refine Below.set ?_ ?_ _; rotate_left; (simp <;> omega)) | refine Below.box_ ?_ _ | refine Below.next ?_ (by assumption))))
  rw [HN.out] at C
  refine C.mono ?_
  clear C
  rintro _ w2 ⟨rfl,hb2⟩
  obtain ⟨hc_w2,hf_w2⟩ := bcell hb2
  have hz0_w2 : w.heap.size < w2.heap.size := by have := hb2.size; (try simp at this); omega
  go_wp2
  go_ret
  exact ⟨ret_bool E.out,by (with_reducible repeat first | exact Below.refl _ _ | (refine Below.set ?_ ?_ _; rotate_left; (simp <;> omega)) | refine Below.box_ ?_ _ | refine Below.next ?_ (by assumption))⟩
 have z0 : ((n2 : Int) == 0) = false := by simp; omega
 rcases Nat.lt_or_ge 24 n2 with h2 | h2
 ·have E := hid (show false = ratOkB x by unfold ratOkB; rw [hb,hn,L2.out,show decide (n2 ≤ 24) = false by simp; omega]; simp)
  have z2 : (24 : Int) < n2 := by omega
  clear hb hn h2 h0
  go_enter Tryz.func121,Tryz.ntmps121
  go_wp2_with fail
  have C := spec_BigIntOk _ x.num s1 (w.alloc (.cells #[.bool x.num.neg, .slice A1 n1 c1, .slice A2 n2 c2] 32)) (TBigInt.mkAgg (Sl.below H1.out (by (with_reducible repeat first | exact Below.refl _ _ | (refine Below.set ?_ ?_ _; rotate_left; (simp <;> omega)) | refine Below.box_ ?_ _ | refine Below.next ?_ (by assumption)))))
  rw [HB.out] at C
  refine C.mono ?_
  clear C
  rintro _ w1 ⟨rfl,hb1⟩
  obtain ⟨hc_w1,hf_w1⟩ := bcell hb1
  have hz0_w1 : w.heap.size < w1.heap.size := by have := hb1.size; (try simp at this); omega
  go_wp2_with fail
  have C := spec_NatOk A2 n2 c2 x.den s2 w1 (Sl.below H2.out (by (with_reducible repeat first | exact Below.refl _ _ | (refine Below.set ?_ ?_ _; rotate_left; (simp <;> omega)) | refine Below.box_ ?_ _ | refine Below.next ?_ (by assumption))))
  rw [HN.out] at C
  refine C.mono ?_
  clear C
  rintro _ w2 ⟨rfl,hb2⟩
  obtain ⟨hc_w2,hf_w2⟩ := bcell hb2
  have hz0_w2 : w.heap.size < w2.heap.size := by have := hb2.size; (try simp at this); omega
  go_wp2
  go_ret
  exact ⟨ret_bool E.out,by (with_reducible repeat first | exact Below.refl _ _ | (refine Below.set ?_ ?_ _; rotate_left; (simp <;> omega)) | refine Below.box_ ?_ _ | refine Below.next ?_ (by assumption))⟩
 have z2 : ¬ ((24 : Int) < n2) := by omega
 rcases Nat.lt_or_ge 24 n1 with h1 | h1
 ·have E := hid (show false = ratOkB x by unfold ratOkB; rw [hb,hn,L1.out,show decide (n1 ≤ 24) = false by simp; omega]; simp)
  have z1 : (24 : Int) < n1 := by omega
  clear hb hn h2 h0 h1
  go_enter Tryz.func121,Tryz.ntmps121
  go_wp2_with fail
  have C := spec_BigIntOk _ x.num s1 (w.alloc (.cells #[.bool x.num.neg, .slice A1 n1 c1, .slice A2 n2 c2] 32)) (TBigInt.mkAgg (Sl.below H1.out (by (with_reducible repeat first | exact Below.refl _ _ | (refine Below.set ?_ ?_ _; rotate_left; (simp <;> omega)) | refine Below.box_ ?_ _ | refine Below.next ?_ (by assumption)))))
  rw [HB.out] at C
  refine C.mono ?_
  clear C
  rintro _ w1 ⟨rfl,hb1⟩
  obtain ⟨hc_w1,hf_w1⟩ := bcell hb1
  have hz0_w1 : w.heap.size < w1.heap.size := by have := hb1.size; (try simp at this); omega
  go_wp2_with fail
  have C := spec_NatOk A2 n2 c2 x.den s2 w1 (Sl.below H2.out (by (with_reducible repeat first | exact Below.refl _ _ | (refine Below.set ?_ ?_ _; rotate_left; (simp <;> omega)) | refine Below.box_ ?_ _ | refine Below.next ?_ (by assumption))))
  rw [HN.out] at C
  refine C.mono ?_
  clear C
  rintro _ w2 ⟨rfl,hb2⟩
  obtain ⟨hc_w2,hf_w2⟩ := bcell hb2
  have hz0_w2 : w.heap.size < w2.heap.size := by have := hb2.size; (try simp at this); omega
  go_wp2
  go_ret
  exact ⟨ret_bool E.out,by (with_reducible repeat first | exact Below.refl _ _ | (refine Below.set ?_ ?_ _; rotate_left; (simp <;> omega)) | refine Below.box_ ?_ _ | refine Below.next ?_ (by assumption))⟩
 have z1 : ¬ ((24 : Int) < n1) := by omega
 have E := hid (show decide (dig (Int.gcd (val x.num.mag) (val x.den)) = [1]) = ratOkB x by
  unfold ratOkB
  rw [hb,hn,L1.out,L2.out,decide_eq_true h1,decide_eq_true h2]
  have : x.den.isEmpty = false := by
   cases hd : x.den with
   | nil => have := L2.out; rw [hd] at this; simp at this; omega
   | cons _ _ => rfl
  rw [this]
  simp only [Bool.not_false,Bool.true_and]
  congr 1
  rw [eq_iff_iff]
  refine ⟨fun h => ?_,fun h => by rw [h]; rfl⟩
  have h3 := val_dig (Int.gcd (val x.num.mag) (val x.den))
  rw [h] at h3
  have h4 : val [1] = 1 := rfl
  omega)
 have hn1 := hid (show n1 ≤ 65536 by omega)
 have hn2 := hid (show n2 ≤ 65536 by omega)
 clear hb hn h0 h1 h2
 go_enter Tryz.func121,Tryz.ntmps121
 go_wp2_with fail
 have C := spec_BigIntOk _ x.num s1 (w.alloc (.cells #[.bool x.num.neg, .slice A1 n1 c1, .slice A2 n2 c2] 32)) (TBigInt.mkAgg (Sl.below H1.out (by (with_reducible repeat first | exact Below.refl _ _ | (refine Below.set ?_ ?_ _; rotate_left; (simp <;> omega)) | refine Below.box_ ?_ _ | refine Below.next ?_ (by assumption)))))
 rw [HB.out] at C
 refine C.mono ?_
 clear C
 rintro _ w1 ⟨rfl,hb1⟩
 obtain ⟨hc_w1,hf_w1⟩ := bcell hb1
 have hz0_w1 : w.heap.size < w1.heap.size := by have := hb1.size; (try simp at this); omega
 go_wp2_with fail
 have C := spec_NatOk A2 n2 c2 x.den s2 w1 (Sl.below H2.out (by (with_reducible repeat first | exact Below.refl _ _ | (refine Below.set ?_ ?_ _; rotate_left; (simp <;> omega)) | refine Below.box_ ?_ _ | refine Below.next ?_ (by assumption))))
 rw [HN.out] at C
 refine C.mono ?_
 clear C
 rintro _ w2 ⟨rfl,hb2⟩
 obtain ⟨hc_w2,hf_w2⟩ := bcell hb2
 have hz0_w2 : w.heap.size < w2.heap.size := by have := hb2.size; (try simp at this); omega
 go_wp2_with fail
 have b12 : Below w.heap.size w w2 := by (with_reducible repeat first | exact Below.refl _ _ | (refine Below.set ?_ ?_ _; rotate_left; (simp <;> omega)) | refine Below.box_ ?_ _ | refine Below.next ?_ (by assumption))
 refine (spec_l02Gcd A1 A2 n1 n2 c1 c2 x.num.mag x.den _ _ w2 (Sl.below H1.out b12) (Sl.below H2.out b12) CB.out.2 CN.out.2 hn1.out hn2.out).mono ?_
 rintro _ w3 ⟨A4,n4,c4,s4,rfl,hs4,ho4,hb4⟩
 have HS4 := hid hs4
 clear hs4 ho4
 obtain ⟨hc_w3,hf_w3⟩ := bcell hb4
 have hz0_w3 : w.heap.size < w3.heap.size := by have := hb4.size; (try simp at this); omega
 go_wp2_with fail
 have C := spec_l04One A4 n4 c4 _ s4 w3 HS4.out
 rw [E.out] at C
 refine C.mono ?_
 clear C
 rintro _ w5 ⟨rfl,hb5⟩
 have b5 := Below.next (Below.next b12 hb4) hb5
 go_wp2
 go_ret
 exact ⟨rfl,b5⟩
end Go.Proofs.YtpfipnankjeokaaGreat.X

/- The reference's numbers: l03Add. -/
namespace Go.Proofs.YtpfipnankjeokaaGreat.X
open Go.RowKit Go.XB Go.XN
attribute [local go_sem] fillBy opAt deps depOf Region.wanted yielded
attribute [local simp] deps depOf MP.eq MP.agg MP.sl Facts

theorem enc_mk {neg : Bool} {N n : Nat} {v : Int} (E : (encI v).mag = dig N ∧ (encI v).neg = (neg && decide (0 < (dig N).length))) (hl : (encI v).mag.length = n) : (⟨neg && decide (0 < n),(encI v).mag⟩ : TBigInt) = encI v := by
 rw [← hl,E.1, ← E.2, ← E.1]
theorem row_gives {w w' : World} {xs : List Int} {e : Ending} (hi : ∀ x ∈ xs,I64 x) (h : GivesRow w 3 xs e w') : GivesSl w xs e w' := by
 obtain ⟨v,rfl,ho,hb⟩ := h
 exact gives_row ho rfl hi hb
theorem sum_len {k : Nat} {xs ys : List Int} (hx : Lims xs) (hy : Lims ys) (lx : xs.length ≤ k) (ly : ys.length ≤ k) : (dig (val xs + val ys).toNat).length ≤ k + 1 := by
 have h1 := val_lt hx; have h2 := val_lt hy
 have h3 := pw_mono lx; have h4 := pw_mono ly
 have h5 := val_nonneg hx; have h6 := val_nonneg hy
 refine dig_len ?_
 rw [pw_succ]; omega
theorem sub_len {k : Nat} {xs ys : List Int} (hx : Lims xs) (hy : Lims ys) (lx : xs.length ≤ k) : (dig (val xs - val ys).toNat).length ≤ k + 1 := by
 have h1 := val_lt hx
 have h3 := pw_mono lx
 have h5 := val_nonneg hx; have h6 := val_nonneg hy
 have h7 := pw_pos k
 refine dig_len ?_
 rw [pw_succ]; omega

set_option maxHeartbeats 2000000 in
set_option maxRecDepth 10000 in
theorem spec_l03Add (v1 v2 : Value) (x y : TBigInt) (b1 b2 : List Nat) (w : World) (hx : Agg w v1 x b1) (hy : Agg w v2 y b2) (cx : XN.Can x.mag) (cy : XN.Can y.mag) (lx : x.mag.length ≤ 59) (ly : y.mag.length ≤ 59) :
  Calls Tryz.prog 165 #[v1,v2] w (GivesAgg w (encI (ival x + ival y))) := by
 obtain ⟨A1,n1,c1,s1,rfl,rfl,hs1⟩ := TBigInt.agg hx
 obtain ⟨A2,n2,c2,s2,rfl,rfl,hs2⟩ := TBigInt.agg hy
 have H1 := hid hs1; have H2 := hid hs2
 have CX := hid cx; have CY := hid cy; have LX := hid lx; have LY := hid ly
 have N1 := hid (show n1 ≤ 1048576 by rw [← hs1.1]; omega)
 have N2 := hid (show n2 ≤ 1048576 by rw [← hs2.1]; omega)
 clear hs1 hs2 hx hy cx cy lx ly
 by_cases hn : x.neg = y.neg
 ·have E := hid (enc_of (add_same CX.out.1 CY.out.1 hn))
  have hb : (x.neg == y.neg) = true := by simp [hn]
  clear hn
  go_enter Tryz.func165,Tryz.ntmps165
  go_wp2_with fail
  refine wp_region_last (by simp) (by kernel_rfl) (by kernel_rfl) (by kernel_rfl) (by kernel_rfl) ?_
  dsimp only [List.dropLast,List.getLast,List.length]
  iterate 6
   apply walkM_eq
   case h =>
    intro yq zq wq hC hd
    obtain ⟨hcq,hfq⟩ := bcell hC
    simp at hd
    refine ⟨by go_simp; done, ?_⟩
    go_simp
    first | (go_ints; exact rfl) | (go_ints; rw [if_pos (by omega)]; try exact rfl) | exact rfl | (rw [if_pos (by omega)]; try exact rfl)
  refine walkM_call (MP.sl (encI (ival x + ival y)).mag) ?_ ?_
  ·intro yq zq wq hC hd
   obtain ⟨hcq,hfq⟩ := bcell hC
   simp at hd
   refine ⟨by go_simp; done, ?_⟩
   apply Exists.intro
   apply Exists.intro
   constructor
   ·go_simp
    exact ⟨rfl,rfl⟩
   ·have := (spec_l02Add A1 A2 n1 n2 c1 c2 x.mag y.mag _ _ wq (Sl.below H1.out (by (with_reducible repeat first | exact Below.refl _ _ | (refine Below.set ?_ ?_ _; rotate_left; (simp <;> omega)) | refine Below.box_ ?_ _ | refine Below.next ?_ (by assumption)))) (Sl.below H2.out (by (with_reducible repeat first | exact Below.refl _ _ | (refine Below.set ?_ ?_ _; rotate_left; (simp <;> omega)) | refine Below.box_ ?_ _ | refine Below.next ?_ (by assumption)))) CX.out CY.out N1.out N2.out).mono fun _ _ h => row_gives (dig_can _).1.i64 h
    rw [← E.out.1] at this
    exact gives_sl this
  refine walkM_call (MP.agg (encI (ival x + ival y))) ?_ ?_
  ·intro yq zq wq hC hd
   obtain ⟨hcq,hfq⟩ := bcell hC
   simp at hd
   refine ⟨by go_simp; done, ?_⟩
   apply Exists.intro
   apply Exists.intro
   constructor
   ·go_simp
    exact ⟨rfl,rfl⟩
   ·obtain ⟨_,⟨A,n,c,e,hs⟩, _⟩ := hd
    rw [e]
    have C := spec_l03Make x.neg A n c _ _ wq hs (encI_can _) (by rw [← hs.1,E.out.1]; exact sum_len CX.out.1 CY.out.1 LX.out LY.out)
    rw [enc_mk E.out hs.1] at C
    exact gives_agg C
  intro yq zq wa hC hd hdis0
  have hdis := hid hdis0
  clear hdis0
  simp at hd
  go_simp
  have q7 := hd.2.2.2.2.2.2.2
  obtain ⟨⟨ha,hf⟩,hr⟩ := q7
  obtain ⟨B1,m1,d1,t1,e7,hz,hs1⟩ := TBigInt.agg ha
  have HA := hid ha; have HF := hid hf; have HR := hid hr
  clear hd hdis hz hs1 ha hf hr
  obtain ⟨hc_wa,hf_wa⟩ := bcell hC
  have hz0_wa : w.heap.size < wa.heap.size := by have := hC.size; (try simp at this); omega
  have hz1_wa : w.heap.size + 1 < wa.heap.size := by have := hC.size; (try simp at this); omega
  have hz2_wa : w.heap.size + 1 + 1 < wa.heap.size := by have := hC.size; (try simp at this); omega
  go_wp2
  refine bodyPost_ret (v := .agg #[.bool (encI (ival x + ival y)).neg, .slice B1 m1 d1]) (by simp [results,Tryz.results165,go_sem, *]) rfl ?_
  rw [e7] at HA
  refine agg_fin (lo := w.heap.size + 3) HA.out HF.out (fun b hb => by have := (HR.out b hb).1; omega) (by omega) ?_ ?_
  ·(with_reducible repeat first | exact Above.refl _ _ | (refine Above.set ?_ ?_ _; rotate_left; (simp <;> omega)) | refine Above.box ?_ _ | refine Above.below ?_ (by assumption))
  ·(with_reducible repeat first | exact Below.refl _ _ | (refine Below.set ?_ ?_ _; rotate_left; (simp <;> omega)) | refine Below.box_ ?_ _ | refine Below.next ?_ (by assumption))
 ·have hb : (x.neg == y.neg) = false := by simp [hn]
  rcases Int.lt_or_le (val x.mag) (val y.mag) with hc | hc
  ·have E := hid (enc_of (add_lt hn (Int.le_of_lt hc)))
   have S := hid (show ¬ (0 ≤ sgn (val x.mag - val y.mag)) by rw [sgn_lt hc]; decide)
   have HC := hid (Int.le_of_lt hc)
   clear hn hc
   go_enter Tryz.func165,Tryz.ntmps165
   go_wp2_with fail
   refine (spec_l02Cmp A1 A2 n1 n2 c1 c2 x.mag y.mag _ _ _ (Sl.below H1.out (by (with_reducible repeat first | exact Below.refl _ _ | (refine Below.set ?_ ?_ _; rotate_left; (simp <;> omega)) | refine Below.box_ ?_ _ | refine Below.next ?_ (by assumption)))) (Sl.below H2.out (by (with_reducible repeat first | exact Below.refl _ _ | (refine Below.set ?_ ?_ _; rotate_left; (simp <;> omega)) | refine Below.box_ ?_ _ | refine Below.next ?_ (by assumption)))) CX.out CY.out).mono ?_
   rintro _ w1 ⟨rfl,hb1⟩
   have SG := S.out
   generalize sgn (val x.mag - val y.mag) = sg at *
   obtain ⟨hc_w1,hf_w1⟩ := bcell hb1
   have hz0_w1 : w.heap.size < w1.heap.size := by have := hb1.size; (try simp at this); omega
   have hz1_w1 : w.heap.size + 1 < w1.heap.size := by have := hb1.size; (try simp at this); omega
   have hz2_w1 : w.heap.size + 1 + 1 < w1.heap.size := by have := hb1.size; (try simp at this); omega
   go_wp2_with fail
   refine wp_region_last (by simp) (by kernel_rfl) (by kernel_rfl) (by kernel_rfl) (by kernel_rfl) ?_
   dsimp only [List.dropLast,List.getLast,List.length]
   iterate 6
    apply walkM_eq
    case h =>
     intro yq zq wq hC hd
     obtain ⟨hcq,hfq⟩ := bcell hC
     simp at hd
     refine ⟨by go_simp; done, ?_⟩
     go_simp
     first | (go_ints; exact rfl) | (go_ints; rw [if_pos (by omega)]; try exact rfl) | exact rfl | (rw [if_pos (by omega)]; try exact rfl)
   refine walkM_call (MP.sl (encI (ival x + ival y)).mag) ?_ ?_
   ·intro yq zq wq hC hd
    obtain ⟨hcq,hfq⟩ := bcell hC
    simp at hd
    refine ⟨by go_simp; done, ?_⟩
    apply Exists.intro
    apply Exists.intro
    constructor
    ·go_simp
     exact ⟨rfl,rfl⟩
    ·have := (spec_l02Sub A2 A1 n2 n1 c2 c1 y.mag x.mag _ _ wq (Sl.below H2.out (by (with_reducible repeat first | exact Below.refl _ _ | (refine Below.set ?_ ?_ _; rotate_left; (simp <;> omega)) | refine Below.box_ ?_ _ | refine Below.next ?_ (by assumption)))) (Sl.below H1.out (by (with_reducible repeat first | exact Below.refl _ _ | (refine Below.set ?_ ?_ _; rotate_left; (simp <;> omega)) | refine Below.box_ ?_ _ | refine Below.next ?_ (by assumption)))) CY.out CX.out N2.out HC.out).mono fun _ _ h => row_gives (dig_can _).1.i64 h
     rw [← E.out.1] at this
     exact gives_sl this
   refine walkM_call (MP.agg (encI (ival x + ival y))) ?_ ?_
   ·intro yq zq wq hC hd
    obtain ⟨hcq,hfq⟩ := bcell hC
    simp at hd
    refine ⟨by go_simp; done, ?_⟩
    apply Exists.intro
    apply Exists.intro
    constructor
    ·go_simp
     exact ⟨rfl,rfl⟩
    ·obtain ⟨_,⟨A,n,c,e,hs⟩, _⟩ := hd
     rw [e]
     have C := spec_l03Make y.neg A n c _ _ wq hs (encI_can _) (by rw [← hs.1,E.out.1]; exact sub_len CY.out.1 CX.out.1 LY.out)
     rw [enc_mk E.out hs.1] at C
     exact gives_agg C
   intro yq zq wa hC hd hdis0
   have hdis := hid hdis0
   clear hdis0
   simp at hd
   go_simp
   have q7 := hd.2.2.2.2.2.2.2
   obtain ⟨⟨ha,hf⟩,hr⟩ := q7
   obtain ⟨B1,m1,d1,t1,e7,hz,hs1⟩ := TBigInt.agg ha
   have HA := hid ha; have HF := hid hf; have HR := hid hr
   clear hd hdis hz hs1 ha hf hr
   obtain ⟨hc_wa,hf_wa⟩ := bcell hC
   have hz0_wa : w.heap.size < wa.heap.size := by have := hC.size; (try simp at this); omega
   have hz1_wa : w.heap.size + 1 < wa.heap.size := by have := hC.size; (try simp at this); omega
   have hz2_wa : w.heap.size + 1 + 1 < wa.heap.size := by have := hC.size; (try simp at this); omega
   go_wp2
   refine bodyPost_ret (v := .agg #[.bool (encI (ival x + ival y)).neg, .slice B1 m1 d1]) (by simp [results,Tryz.results165,go_sem, *]) rfl ?_
   rw [e7] at HA
   refine agg_fin (lo := w.heap.size + 3) HA.out HF.out (fun b hb => by have := (HR.out b hb).1; omega) (by omega) ?_ ?_
   ·(with_reducible repeat first | exact Above.refl _ _ | (refine Above.set ?_ ?_ _; rotate_left; (simp <;> omega)) | refine Above.box ?_ _ | refine Above.below ?_ (by assumption))
   ·(with_reducible repeat first | exact Below.refl _ _ | (refine Below.set ?_ ?_ _; rotate_left; (simp <;> omega)) | refine Below.box_ ?_ _ | refine Below.next ?_ (by assumption))
  ·have E := hid (enc_of (add_ge hn hc))
   have S := hid (show 0 ≤ sgn (val x.mag - val y.mag) by have := sgn_nonneg hc; omega)
   have HC := hid hc
   clear hn hc
   go_enter Tryz.func165,Tryz.ntmps165
   go_wp2_with fail
   refine (spec_l02Cmp A1 A2 n1 n2 c1 c2 x.mag y.mag _ _ _ (Sl.below H1.out (by (with_reducible repeat first | exact Below.refl _ _ | (refine Below.set ?_ ?_ _; rotate_left; (simp <;> omega)) | refine Below.box_ ?_ _ | refine Below.next ?_ (by assumption)))) (Sl.below H2.out (by (with_reducible repeat first | exact Below.refl _ _ | (refine Below.set ?_ ?_ _; rotate_left; (simp <;> omega)) | refine Below.box_ ?_ _ | refine Below.next ?_ (by assumption)))) CX.out CY.out).mono ?_
   rintro _ w1 ⟨rfl,hb1⟩
   have SG := S.out
   generalize sgn (val x.mag - val y.mag) = sg at *
   obtain ⟨hc_w1,hf_w1⟩ := bcell hb1
   have hz0_w1 : w.heap.size < w1.heap.size := by have := hb1.size; (try simp at this); omega
   have hz1_w1 : w.heap.size + 1 < w1.heap.size := by have := hb1.size; (try simp at this); omega
   have hz2_w1 : w.heap.size + 1 + 1 < w1.heap.size := by have := hb1.size; (try simp at this); omega
   go_wp2_with fail
   refine wp_region_last (by simp) (by kernel_rfl) (by kernel_rfl) (by kernel_rfl) (by kernel_rfl) ?_
   dsimp only [List.dropLast,List.getLast,List.length]
   iterate 6
    apply walkM_eq
    case h =>
     intro yq zq wq hC hd
     obtain ⟨hcq,hfq⟩ := bcell hC
     simp at hd
     refine ⟨by go_simp; done, ?_⟩
     go_simp
     first | (go_ints; exact rfl) | (go_ints; rw [if_pos (by omega)]; try exact rfl) | exact rfl | (rw [if_pos (by omega)]; try exact rfl)
   refine walkM_call (MP.sl (encI (ival x + ival y)).mag) ?_ ?_
   ·intro yq zq wq hC hd
    obtain ⟨hcq,hfq⟩ := bcell hC
    simp at hd
    refine ⟨by go_simp; done, ?_⟩
    apply Exists.intro
    apply Exists.intro
    constructor
    ·go_simp
     exact ⟨rfl,rfl⟩
    ·have := (spec_l02Sub A1 A2 n1 n2 c1 c2 x.mag y.mag _ _ wq (Sl.below H1.out (by (with_reducible repeat first | exact Below.refl _ _ | (refine Below.set ?_ ?_ _; rotate_left; (simp <;> omega)) | refine Below.box_ ?_ _ | refine Below.next ?_ (by assumption)))) (Sl.below H2.out (by (with_reducible repeat first | exact Below.refl _ _ | (refine Below.set ?_ ?_ _; rotate_left; (simp <;> omega)) | refine Below.box_ ?_ _ | refine Below.next ?_ (by assumption)))) CX.out CY.out N1.out HC.out).mono fun _ _ h => row_gives (dig_can _).1.i64 h
     rw [← E.out.1] at this
     exact gives_sl this
   refine walkM_call (MP.agg (encI (ival x + ival y))) ?_ ?_
   ·intro yq zq wq hC hd
    obtain ⟨hcq,hfq⟩ := bcell hC
    simp at hd
    refine ⟨by go_simp; done, ?_⟩
    apply Exists.intro
    apply Exists.intro
    constructor
    ·go_simp
     exact ⟨rfl,rfl⟩
    ·obtain ⟨_,⟨A,n,c,e,hs⟩, _⟩ := hd
     rw [e]
     have C := spec_l03Make x.neg A n c _ _ wq hs (encI_can _) (by rw [← hs.1,E.out.1]; exact sub_len CX.out.1 CY.out.1 LX.out)
     rw [enc_mk E.out hs.1] at C
     exact gives_agg C
   intro yq zq wa hC hd hdis0
   have hdis := hid hdis0
   clear hdis0
   simp at hd
   go_simp
   have q7 := hd.2.2.2.2.2.2.2
   obtain ⟨⟨ha,hf⟩,hr⟩ := q7
   obtain ⟨B1,m1,d1,t1,e7,hz,hs1⟩ := TBigInt.agg ha
   have HA := hid ha; have HF := hid hf; have HR := hid hr
   clear hd hdis hz hs1 ha hf hr
   obtain ⟨hc_wa,hf_wa⟩ := bcell hC
   have hz0_wa : w.heap.size < wa.heap.size := by have := hC.size; (try simp at this); omega
   have hz1_wa : w.heap.size + 1 < wa.heap.size := by have := hC.size; (try simp at this); omega
   have hz2_wa : w.heap.size + 1 + 1 < wa.heap.size := by have := hC.size; (try simp at this); omega
   go_wp2
   refine bodyPost_ret (v := .agg #[.bool (encI (ival x + ival y)).neg, .slice B1 m1 d1]) (by simp [results,Tryz.results165,go_sem, *]) rfl ?_
   rw [e7] at HA
   refine agg_fin (lo := w.heap.size + 3) HA.out HF.out (fun b hb => by have := (HR.out b hb).1; omega) (by omega) ?_ ?_
   ·(with_reducible repeat first | exact Above.refl _ _ | (refine Above.set ?_ ?_ _; rotate_left; (simp <;> omega)) | refine Above.box ?_ _ | refine Above.below ?_ (by assumption))
   ·(with_reducible repeat first | exact Below.refl _ _ | (refine Below.set ?_ ?_ _; rotate_left; (simp <;> omega)) | refine Below.box_ ?_ _ | refine Below.next ?_ (by assumption))
end Go.Proofs.YtpfipnankjeokaaGreat.X

/- The reference's fractions: l04Mul,l03Cmp,l04Cmp. -/
namespace Go.Proofs.YtpfipnankjeokaaGreat.X
open Go.RowKit Go.XB Go.XN
attribute [local go_sem] fillBy opAt deps depOf Region.wanted yielded
attribute [local simp] deps depOf MP.eq MP.agg MP.sl Facts
set_option linter.constructorNameAsVariable false

theorem nd_mul {x : TBigInt} {ys : List Int} (hx : Lims x.mag) (hy : Lims ys) : ival x * val ys = if x.neg then -((val x.mag * val ys).toNat : Int) else (val x.mag * val ys).toNat := by
 have h := Int.mul_nonneg (val_nonneg hx) (val_nonneg hy)
 rw [Int.toNat_of_nonneg h]
 unfold ival
 cases x.neg <;> simp [Int.neg_mul]
theorem mul_len {k m : Nat} {xs ys : List Int} (hx : Lims xs) (hy : Lims ys) (lx : xs.length ≤ k) (ly : ys.length ≤ m) : (dig (val xs * val ys).toNat).length ≤ k + m := by
 have h1 := val_lt hx; have h2 := val_lt hy
 have h3 := pw_mono lx; have h4 := pw_mono ly
 have h5 := val_nonneg hx; have h6 := val_nonneg hy
 have h7 := Int.mul_nonneg h5 h6
 refine dig_len ?_
 rw [Int.toNat_of_nonneg h7,pw_add]
 have h8 : val xs * val ys ≤ val xs * pw m := Int.mul_le_mul_of_nonneg_left (by omega) h5
 have h9 : val xs * pw m < pw k * pw m := Int.mul_lt_mul_of_pos_right (by omega) (pw_pos m)
 omega

theorem nd_mk {r s : TRat} {n : Nat} (hx : Lims r.num.mag) (hy : Lims s.den) (hl : (dig (val r.num.mag * val s.den).toNat).length = n) : (⟨r.num.neg && decide (0 < n),dig (val r.num.mag * val s.den).toNat⟩ : TBigInt) = encI (numv r * denv s) := by
 have E := enc_of (nd_mul hx hy)
 have h : numv r * denv s = ival r.num * val s.den := rfl
 rw [h, ← hl, ← E.2, ← E.1]

end Go.Proofs.YtpfipnankjeokaaGreat.X

/- The reference's fractions: l04Copy,l04Neg. -/
namespace Go.Proofs.YtpfipnankjeokaaGreat.X
open Go.RowKit Go.XB Go.XN

def MP.lit0 : MP := ⟨fun v bs _ => (∃ g,v = .slice (some ⟨g,0,none⟩) 0 0) ∧ bs = [],fun _ _ _ _ _ h => h⟩

attribute [local go_sem] fillBy opAt deps depOf Region.wanted yielded
attribute [local simp] deps depOf MP.eq MP.agg MP.sl MP.lit0 Facts
set_option linter.constructorNameAsVariable false

end Go.Proofs.YtpfipnankjeokaaGreat.X
