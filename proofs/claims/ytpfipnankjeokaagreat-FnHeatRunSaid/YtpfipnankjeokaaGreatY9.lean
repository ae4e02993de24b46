/- Part of a claim's proof: texts of this repository's wip,joined by prune.py,without the theorems that the claim does not reach. -/
import Derived.Test.YtpfipnankjeokaaGreatY8
set_option linter.constructorNameAsVariable false
namespace Go.Proofs.YtpfipnankjeokaaGreat.X
open Go.RowKit Go.XB Go.XN
attribute [local go_sem] fillBy opAt deps depOf Region.wanted yielded
attribute [local simp] deps depOf MP.eq MP.agg MP.sl Facts

set_option maxHeartbeats 400000 in
theorem spec_l01In (n lo hi : Int) (w : World) : Calls Tryz.prog 186 #[.int .i64 n, .int .i64 lo, .int .i64 hi] w (Gives w (.bool (inB lo n hi))) := by
 rcases Int.lt_or_le n lo with h | h
 ·have E := hid (show false = inB lo n hi by unfold inB; simp; omega)
  have h' : ¬ (lo ≤ n) := by omega
  go_enter Tryz.func186,Tryz.ntmps186
  go_wp2
  go_ret
  exact ⟨ret_bool E.out,Below.go⟩
 ·have E := hid (show decide (n ≤ hi) = inB lo n hi by unfold inB; simp [h])
  go_enter Tryz.func186,Tryz.ntmps186
  go_wp2
  go_ret
  exact ⟨ret_bool E.out,Below.go⟩

set_option maxHeartbeats 400000 in
theorem spec_l02Trim (A : Option Addr) (n c : Nat) (xs : List Int) (bs : List Nat) (w : World) (hx : Sl w A n c xs bs) :
  Calls Tryz.prog 193 #[.slice A n c] w (Gives w (.slice A (trim xs).length c)) := by
 have hnc : n ≤ c := hx.2.1
 have hcm : c ≤ maxLen := hx.2.2.1
 unfold maxLen at hcm
 have HL := hid hx.1
 have HX := hid hx
 clear hx
 go_enter Tryz.func193,Tryz.ntmps193
 go_wp2_with fail
 go_loopg [3] n (fun g s wr => s = .int .i64 g ∧ g ≤ n ∧ Hid (trim (xs.take g) = trim xs) ∧ Below w.heap.size w wr)
 case atStart => exact ⟨rfl,Nat.le_refl _,by rw [List.take_of_length_le (Nat.le_of_eq HL.out)]; rfl,Below.refl _ _⟩
 case round =>
  obtain ⟨rfl,hk,ht,hb⟩ := hrel
  rcases Nat.eq_zero_or_pos gk with h0 | h0
  ·subst h0
   go_wp2
   go_ret
   refine ⟨?_,hb⟩
   rw [← ht.out]; rfl
  ·obtain ⟨j,rfl⟩ : ∃ j,gk = j + 1 := ⟨gk - 1,by omega⟩
   obtain ⟨b,off,x,rfl,hbl,hxk, _,hcx⟩ := Sl.getInt (Sl.below HX.out hb) (show j < n by omega)
   have HXk := hid hxk
   clear hxk
   have hj1 : (j : Int) + 1 ≤ c := by omega
   have hjn : (j : Int) < n := by omega
   by_cases hz : x = 0
   ·have hzb : (x == 0) = true := by simp [hz]
    have r3 := hid (show trim (xs.take j) = trim xs by rw [← ht.out,take_step HXk.out,hz,trim_snoc_zero])
    clear hz
    have rj : j ≤ n := by omega
    go_wp2_with fail
    go_roundg j
    case measure => omega
    case rel => exact ⟨by go_num,rj,r3,hb⟩
   ·have hzb : (x == 0) = false := by simp [hz]
    have r3 := hid (show trim xs = xs.take (j + 1) by rw [← ht.out,take_step HXk.out,trim_snoc hz])
    clear hz
    go_wp2
    go_ret
    refine ⟨?_,hb⟩
    have hlen : (trim xs).length = j + 1 := by rw [r3.out,List.length_take]; have := HL.out; omega
    rw [hlen]; rfl

theorem spec_trim_row (A : Option Addr) (n c b : Nat) (zs : List Int) (w : World) (h : w.ownsRow b 3 1 (.slice A n c) n (zs.map (.int .i64))) (hi : ∀ x ∈ zs,I64 x) :
  Calls Tryz.prog 193 #[.slice A n c] w (fun e w' => e = .returned (.slice A (trim zs).length c) ∧ Below w.heap.size w w' ∧ w'.ownsRow b 3 1 (.slice A (trim zs).length c) (trim zs).length ((trim zs).map (.int .i64))) := by
 obtain ⟨bs,hs⟩ := row_sl h hi
 have hz : zs.length = n := by have := h.1; simpa using this
 refine (spec_l02Trim A n c zs bs w hs).mono fun e w' ⟨he,hb⟩ => ⟨he,hb, ?_⟩
 have ht := trim_take zs
 have := row_take (ownsRow_below h hb) (k := (trim zs).length) (by rw [← hz,ht,List.length_take]; omega)
 rw [← ht] at this
 exact this

set_option maxHeartbeats 400000 in
theorem spec_l02Cap (A : Option Addr) (n c : Nat) (xs : List Int) (bs : List Nat) (w : World) (hx : Sl w A n c xs bs) (hl : (trim xs).length ≤ 60) :
  Calls Tryz.prog 194 #[.slice A n c] w (Gives w (.slice A (trim xs).length c)) := by
 have HX := hid hx
 generalize hm : (trim xs).length = m at *
 have HM := hid hm
 have hz : ¬ ((60 : Int) < m) := by omega
 clear hx hm
 go_enter Tryz.func194,Tryz.ntmps194
 go_wp2_with fail
 have C := spec_l02Trim A n c xs bs w HX.out
 rw [HM.out] at C
 refine C.mono ?_
 clear C
 rintro _ w1 ⟨rfl,hb1⟩
 go_wp2
 go_ret
 exact ⟨rfl,hb1⟩

theorem int_split2 (q : Int) (h : 0 ≤ q) : ((q.toNat % 1000000000 : Nat) : Int) = q % 1000000000 ∧ q.toNat / 1000000000 = (q / 1000000000).toNat := by omega

set_option maxHeartbeats 1000000 in
theorem spec_NatOf_row (N : Int) (w : World) (h1 : N ≤ 9223372036854775807) : Calls Tryz.prog 169 #[.int .i64 N] w (GivesRow w 3 (dig N.toNat)) := by
 have hlen : (dig N.toNat).length ≤ 3 := dig_len (by rw [pw_vals.2.2]; omega)
 obtain ⟨i0,hi,hz0,hz1,hz2⟩ := info_parts infoI
 have HLen := hid hlen
 clear hlen
 go_enter Tryz.func169,Tryz.ntmps169
 go_wp2
 go_loopw [0,3] (fun m v wr => ∃ (q : Int) (out : List Int),m = .int .i64 q ∧ wr.ownsRow w.heap.size 3 1 v out.length (out.map (.int .i64)) ∧ Hid (dig N.toNat = out ++ dig q.toNat) ∧ q ≤ 9223372036854775807 ∧ Below w.heap.size w wr) (fun m v wr => (intOf m).toNat)
 case atStart => exact ⟨N, [],rfl,World.ownsRow_made w #[] 0 (Nat.le_refl _) (Nat.zero_le _) rfl,rfl,h1,Below.go⟩
 case round =>
  obtain ⟨q,out,rfl,hown,hd,hq1,hb⟩ := hrel
  have hol : out.length ≤ 3 := by have := HLen.out; rw [hd.out,List.length_append] at this; omega
  by_cases hp : 0 < q
  ·have C3 := hid (show out.length + 1 ≤ maxLen by unfold maxLen; omega)
   have C4 := hid (show (out.length + 1) * 8 ≤ 140737488355328 by omega)
   have C5 := hid hb.size
   have r3 := hid (show dig N.toNat = (out ++ [q % 1000000000]) ++ dig (q / 1000000000).toNat by rw [hd.out,dig_step (by omega),(int_split2 q (by omega)).1,(int_split2 q (by omega)).2]; simp)
   have r5 := hid (show q / 1000000000 ≤ 9223372036854775807 by omega)
   have rm := hid (show (intOf (.int .i64 (q / 1000000000))).toNat < (intOf (.int .i64 q)).toNat by simp [intOf]; omega)
   clear h1 hol
   go_wp2_with (first | (at_builtin; refine wpList_append_own _ rfl _ _ 28 rfl w.heap.size 3 i0 (.int .i64 0) 1 8 Tryz.underlying28 hi hz0 hz1 hz2 rfl (by decide) _ _ _ rfl (hown.alloc _) ⟨wr.heap.size,0,none⟩ 1 1 [.int .i64 (q % 1000000000)] rfl rfl (cell_one_new _ _ _) (fun x hx => by simp at hx; subst hx; rfl) C3.out C4.out (le_alloc C5.out _) ?_; intro v' w3 hown' hgrow' hnil'))
   have hb' := below_push hb hown hgrow'
   first
   | exact ⟨⟨q / 1000000000,out ++ [q % 1000000000],rfl,own_push hown',r3.out,r5.out,hb'⟩,rm.out⟩
   | exact ⟨by (repeat apply Exists.intro); exact ⟨⟨q / 1000000000,out ++ [q % 1000000000],rfl,own_push hown',r3.out,r5.out,hb'⟩,rfl⟩,rm.out⟩
  ·have hz : q.toNat = 0 := by omega
   have e := hd.out
   rw [hz,show dig 0 = [] from rfl,List.append_nil] at e
   have E := hid e
   clear hz e
   go_wp2
   go_ret
   rw [E.out]
   exact ⟨_,rfl,hown,hb⟩

theorem spec_NatOf (N : Int) (w : World) (h1 : N ≤ 9223372036854775807) : Calls Tryz.prog 169 #[.int .i64 N] w (GivesSl w (dig N.toNat)) :=
 (spec_NatOf_row N w h1).mono fun _ _ ⟨_,he,ho,hb⟩ => by subst he; exact gives_row ho rfl (dig_can _).1.i64 hb

set_option maxHeartbeats 1000000 in
theorem spec_l02Cmp (A B : Option Addr) (n m c d : Nat) (xs ys : List Int) (bs ds : List Nat) (w : World) (hx : Sl w A n c xs bs) (hy : Sl w B m d ys ds) (hcx : XN.Can xs) (hcy : XN.Can ys) :
  Calls Tryz.prog 191 #[.slice A n c, .slice B m d] w (Gives w (.int .i64 (sgn (val xs - val ys)))) := by
 have hlx := hid hx.1
 have hly := hid hy.1
 have hcm : c ≤ maxLen := hx.2.2.1
 have hnc : n ≤ c := hx.2.1
 unfold maxLen at hcm
 have HX := hid hx
 have HY := hid hy
 have CX := hid hcx
 have CY := hid hcy
 clear hx hy hcx hcy
 by_cases hnm : n = m
 ·subst hnm
  go_enter Tryz.func191,Tryz.ntmps191
  go_wp2_with fail
  go_loopg [5] n (fun g s wr => s = .int .i64 ((g : Int) - 1) ∧ g ≤ n ∧ Hid (xs.drop g = ys.drop g) ∧ Below w.heap.size w wr)
  case atStart =>
   refine ⟨rfl,Nat.le_refl _, ?_,Below.refl _ _⟩
   show xs.drop n = ys.drop n
   rw [List.drop_eq_nil_of_le (Nat.le_of_eq hlx.out),List.drop_eq_nil_of_le (Nat.le_of_eq hly.out)]
  case round =>
   obtain ⟨rfl,hk,hd,hb⟩ := hrel
   rcases Nat.eq_zero_or_pos gk with h0 | h0
   ·subst h0
    have e := hid (show (0 : Int) = sgn (val xs - val ys) by
     have := hd.out
     rw [List.drop_zero,List.drop_zero] at this
     rw [this]; unfold sgn; simp)
    have hneg : ¬ ((0 : Int) ≤ ((0 : Nat) : Int) - 1) := by omega
    go_wp2
    go_ret
    exact ⟨ret_int e.out,hb⟩
   ·obtain ⟨j,rfl⟩ : ∃ j,gk = j + 1 := ⟨gk - 1,by omega⟩
    have ej : (((j + 1 : Nat) : Int) - 1) = j := by omega
    rw [ej]
    have hj : j < n := hk
    obtain ⟨b1,o1,x,rfl,hb1,hx1,hxi,hc1⟩ := Sl.getInt (Sl.below HX.out hb) hj
    obtain ⟨b2,o2,y,rfl,hb2,hy1,hyi,hc2⟩ := Sl.getInt (Sl.below HY.out hb) hj
    have HX1 := hid hx1
    have HY1 := hid hy1
    have st := hid (val_cmp_step CX.out.1 CY.out.1 HX1.out HY1.out hd.out (by rw [hlx.out,hly.out]))
    have hjn : (j : Int) < n := by omega
    have hd' := hd
    clear hd hx1 hy1 ej
    rcases Int.lt_trichotomy x y with hxy | hxy | hxy
    ·have e := hid (show (-1 : Int) = sgn (val xs - val ys) by rw [sgn_lt (st.out.1 hxy)])
     go_wp2_with fail
     refine wp_region_walk (by kernel_rfl) (by kernel_rfl) (by kernel_rfl) ?_
     iterate 9
      apply walkM_eq
      case h =>
       intro yq zq wq hC hd
       obtain ⟨hcq,hfq⟩ := bcell hC
       simp at hd
       refine ⟨by go_simp; done, ?_⟩
       go_simp
       first | (go_ints; exact rfl) | (go_ints; rw [if_pos (by omega)]; try exact rfl) | exact rfl | (rw [if_pos (by omega)]; try exact rfl)
     intro yq zq wa hC hd hdis0
     have hdis := hid hdis0
     clear hdis0
     simp at hd
     go_simp
     clear hd hdis
     have hb' := Below.next hb hC
     go_wp2
     go_ret
     exact ⟨ret_int e.out,hb'⟩
    ·subst hxy
     have r := hid (show xs.drop j = ys.drop j by
      obtain ⟨hk1,ex⟩ := List.getElem?_eq_some_iff.1 HX1.out
      obtain ⟨hk2,ey⟩ := List.getElem?_eq_some_iff.1 HY1.out
      rw [List.drop_eq_getElem_cons hk1,List.drop_eq_getElem_cons hk2,ex,ey,hd'.out])
     have rj : j ≤ n := by omega
     clear st
     go_wp2_with fail
     refine wp_region_walk (by kernel_rfl) (by kernel_rfl) (by kernel_rfl) ?_
     iterate 9
      apply walkM_eq
      case h =>
       intro yq zq wq hC hd
       obtain ⟨hcq,hfq⟩ := bcell hC
       simp at hd
       refine ⟨by go_simp; done, ?_⟩
       go_simp
       first | (go_ints; exact rfl) | (go_ints; rw [if_pos (by omega)]; try exact rfl) | exact rfl | (rw [if_pos (by omega)]; try exact rfl)
     intro yq zq wa hC hd hdis0
     have hdis := hid hdis0
     clear hdis0
     simp at hd
     go_simp
     clear hd hdis
     have hb' := Below.next hb hC
     have hc1' := ((bcell hC).1 b1 (o1 + j) hb1).trans hc1
     have hc2' := ((bcell hC).1 b2 (o2 + j) hb2).trans hc2
     have hb1' : b1 < wa.heap.size := by have := hC.size; omega
     have hb2' : b2 < wa.heap.size := by have := hC.size; omega
     clear hc1 hc2 hb1 hb2 hC hb
     go_wp2_with fail
     refine wp_region_walk (by kernel_rfl) (by kernel_rfl) (by kernel_rfl) ?_
     iterate 9
      apply walkM_eq
      case h =>
       intro yq zq wq hC hd
       obtain ⟨hcq,hfq⟩ := bcell hC
       simp at hd
       refine ⟨by go_simp; done, ?_⟩
       go_simp
       first | (go_ints; exact rfl) | (go_ints; rw [if_pos (by omega)]; try exact rfl) | exact rfl | (rw [if_pos (by omega)]; try exact rfl)
     intro yq zq wb hC hd hdis0
     have hdis := hid hdis0
     clear hdis0
     simp at hd
     go_simp
     clear hd hdis
     have hb'' := Below.next hb' hC
     go_wp2_with fail
     go_roundg j
     case measure => omega
     case rel => exact ⟨rfl,rj,r,hb''⟩
    ·have e := hid (show (1 : Int) = sgn (val xs - val ys) by rw [sgn_gt (st.out.2 hxy)])
     have hxy' : ¬ x < y := by omega
     clear st
     go_wp2_with fail
     refine wp_region_walk (by kernel_rfl) (by kernel_rfl) (by kernel_rfl) ?_
     iterate 9
      apply walkM_eq
      case h =>
       intro yq zq wq hC hd
       obtain ⟨hcq,hfq⟩ := bcell hC
       simp at hd
       refine ⟨by go_simp; done, ?_⟩
       go_simp
       first | (go_ints; exact rfl) | (go_ints; rw [if_pos (by omega)]; try exact rfl) | exact rfl | (rw [if_pos (by omega)]; try exact rfl)
     intro yq zq wa hC hd hdis0
     have hdis := hid hdis0
     clear hdis0
     simp at hd
     go_simp
     clear hd hdis
     have hb' := Below.next hb hC
     have hc1' := ((bcell hC).1 b1 (o1 + j) hb1).trans hc1
     have hc2' := ((bcell hC).1 b2 (o2 + j) hb2).trans hc2
     have hb1' : b1 < wa.heap.size := by have := hC.size; omega
     have hb2' : b2 < wa.heap.size := by have := hC.size; omega
     clear hc1 hc2 hb1 hb2 hC hb
     go_wp2_with fail
     refine wp_region_walk (by kernel_rfl) (by kernel_rfl) (by kernel_rfl) ?_
     iterate 9
      apply walkM_eq
      case h =>
       intro yq zq wq hC hd
       obtain ⟨hcq,hfq⟩ := bcell hC
       simp at hd
       refine ⟨by go_simp; done, ?_⟩
       go_simp
       first | (go_ints; exact rfl) | (go_ints; rw [if_pos (by omega)]; try exact rfl) | exact rfl | (rw [if_pos (by omega)]; try exact rfl)
     intro yq zq wb hC hd hdis0
     have hdis := hid hdis0
     clear hdis0
     simp at hd
     go_simp
     clear hd hdis
     have hb'' := Below.next hb' hC
     go_wp2
     go_ret
     exact ⟨ret_int e.out,hb''⟩
 ·have hz : ((n : Int) != m) = true := by simp; omega
  rcases Nat.lt_or_ge n m with h | h
  ·have e := hid (show (-1 : Int) = sgn (val xs - val ys) by rw [sgn_lt (XN.Can.lt_of_len CX.out.1 CY.out (by rw [hlx.out,hly.out]; exact h))])
   have h' : (n : Int) < m := by omega
   clear hnm h
   go_enter Tryz.func191,Tryz.ntmps191
   go_wp2
   go_ret
   exact ⟨ret_int e.out,Below.go⟩
  ·have e := hid (show (1 : Int) = sgn (val xs - val ys) by rw [sgn_gt (XN.Can.lt_of_len CY.out.1 CX.out (by rw [hlx.out,hly.out]; omega))])
   have h' : ¬ ((n : Int) < m) := by omega
   clear hnm h
   go_enter Tryz.func191,Tryz.ntmps191
   go_wp2
   go_ret
   exact ⟨ret_int e.out,Below.go⟩

theorem natBad_in (x : Int) : inB 0 x 999999999 = !natBad x := by
 unfold natBad inB; rw [Bool.eq_iff_iff]; simp
set_option maxHeartbeats 1000000 in
theorem spec_NatOk (A : Option Addr) (n c : Nat) (xs : List Int) (bs : List Nat) (w : World) (hx : Sl w A n c xs bs) :
  Calls Tryz.prog 162 #[.slice A n c] w (Gives w (.bool (natOkB xs))) := by
 have HL := hid hx.1
 have HX := hid hx
 have hnc := hx.2.1
 have hm : c ≤ maxLen := hx.2.2.1
 unfold maxLen at hm
 clear hx
 go_enter Tryz.func162,Tryz.ntmps162
 go_wp2_with fail
 go_loopw [7] (fun i wr => ∃ k : Nat,k ≤ n ∧ i = .int .i64 k ∧ Hid ((xs.take k).any natBad = false) ∧ Below w.heap.size w wr) (fun i wr => n - (intOf i).toNat)
 case atStart => exact ⟨0,Nat.zero_le _,rfl,by simp [Hid],Below.refl _ _⟩
 case round =>
  obtain ⟨k,hk,rfl,ha,hb⟩ := hrel
  rcases Nat.lt_or_ge k n with hkn | hkn
  ·have hki : (k : Int) < n := by omega
   obtain ⟨b,off,x,rfl,hbl,hxk, _,hcx⟩ := Sl.getInt (Sl.below HX.out hb) hkn
   have HXk := hid hxk
   clear hxk
   have hkc : (k : Int) + 1 ≤ c := by omega
   have NB := hid (natBad_in x)
   cases hbad : natBad x
   ·rw [hbad] at NB
    have r := hid (show (xs.take (k + 1)).any natBad = false from any_step HXk.out ha.out hbad)
    clear hbad
    have hk1 : k + 1 ≤ n := hkn
    go_wp2_with fail
    have C := spec_l01In x 0 999999999 wr
    rw [NB.out] at C
    refine C.mono ?_
    clear C
    rintro _ w1 ⟨rfl,hb1⟩
    have hb' := Below.next hb hb1
    go_wp2_with fail
    first
    | exact ⟨⟨k + 1,hk1,rfl,r,hb'⟩,meas_succ hkn⟩
    | exact ⟨by (repeat apply Exists.intro); exact ⟨⟨k + 1,hk1,rfl,r,hb'⟩,rfl⟩,meas_succ hkn⟩
   ·rw [hbad] at NB
    have e := hid (show false = natOkB xs by
     rw [natOk_parts]
     have : xs.any natBad = true := List.any_eq_true.2 ⟨x,List.mem_of_getElem? HXk.out,hbad⟩
     rw [this]; simp)
    clear hbad
    go_wp2_with fail
    have C := spec_l01In x 0 999999999 wr
    rw [NB.out] at C
    refine C.mono ?_
    clear C
    rintro _ w1 ⟨rfl,hb1⟩
    have hb' := Below.next hb hb1
    go_wp2
    go_ret
    exact ⟨ret_bool e.out,hb'⟩
  ·obtain rfl : k = n := by omega
   have ha' := ha.out
   rw [List.take_of_length_le (Nat.le_of_eq HL.out)] at ha'
   have HA := hid ha'
   clear ha' ha
   have hki : ¬ ((k : Int) < k) := by omega
   rcases Nat.lt_or_ge 60 k with h60 | h60
   ·have e := hid (show false = natOkB xs by rw [natOk_parts,HL.out]; simp; omega)
    have h1 : ¬ ((k : Int) ≤ 60) := by omega
    go_wp2
    go_ret
    exact ⟨ret_bool e.out,hb⟩
   ·have h1 : (k : Int) ≤ 60 := by omega
    rcases Nat.eq_zero_or_pos k with h0 | h0
    ·subst h0
     have e := hid (show true = natOkB xs by rw [natOk_parts,HA.out,List.eq_nil_of_length_eq_zero HL.out]; rfl)
     go_wp2
     go_ret
     exact ⟨ret_bool e.out,hb⟩
    ·obtain ⟨j,rfl⟩ : ∃ j,k = j + 1 := ⟨k - 1,by omega⟩
     obtain ⟨b,off,x,rfl,hbl,hx1,hI,hcx⟩ := Sl.getInt (Sl.below HX.out hb) (show j < j + 1 by omega)
     have hlast := hid (show xs.getLast? = some x by rw [List.getLast?_eq_getElem?,HL.out]; exact hx1)
     have hz : ((j : Int) + 1 == 0) = false := by simp; omega
     have e := hid (show (x != 0) = natOkB xs by rw [natOk_parts,HA.out,hlast.out,HL.out,decide_eq_true h60]; simp; rfl)
     clear hx1
     go_wp2
     go_ret
     exact ⟨ret_bool e.out,hb⟩

theorem take_more {xs : List Int} {k : Nat} (h : xs.length ≤ k) : val (xs.take (k + 1)) = val (xs.take k) + pw k * 0 := by
 rw [List.take_of_length_le h,List.take_of_length_le (by omega)]; simp

def GivesRowS (w : World) (t : TypeId) (xs : List Int) (e : Ending) (w' : World) : Prop :=
 ∃ g c,e = .returned (.slice (some ⟨g,0,none⟩) xs.length c) ∧ w'.ownsRow w.heap.size t 1 (.slice (some ⟨g,0,none⟩) xs.length c) xs.length (xs.map (.int .i64)) ∧ Below w.heap.size w w'

set_option maxHeartbeats 2000000 in
theorem spec_l02Sub_s (A B : Option Addr) (n m c d : Nat) (xs ys : List Int) (bs ds : List Nat) (w : World) (hx : Sl w A n c xs bs) (hy : Sl w B m d ys ds) (hcx : XN.Can xs) (hcy : XN.Can ys) (hn : n ≤ 1048576) (hle : val ys ≤ val xs) :
  Calls Tryz.prog 192 #[.slice A n c, .slice B m d] w (GivesRowS w 3 (dig (val xs - val ys).toNat)) := by
 obtain ⟨i0,hi,hz0,hz1,hz2⟩ := info_parts infoI
 have hlx := hid hx.1
 have hly := hid hy.1
 have HX := hid hx
 have HY := hid hy
 have CX := hid hcx
 have CY := hid hcy
 have HLE := hid hle
 clear hx hy hcx hcy hle
 go_enter Tryz.func192,Tryz.ntmps192
 go_wp2_with fail
 go_loopw [5,6,12] (fun v y i wr => ∃ (k : Nat) (bw : Int) (out : List Int),k ≤ n ∧ 0 ≤ bw ∧ bw ≤ 1 ∧ i = .int .i64 k ∧ y = .int .i64 bw ∧ wr.ownsRow w.heap.size 3 1 v out.length (out.map (.int .i64)) ∧ v ≠ .slice none 0 0 ∧ Hid (out.length = k) ∧ Hid (Lims out) ∧ Hid (val out = val (xs.take k) - val (ys.take k) + pw k * bw) ∧ Below w.heap.size w wr) (fun v y i wr => n - (intOf i).toNat)
 case atStart => exact ⟨0,0, [],Nat.zero_le _,by omega,by omega,rfl,rfl,World.ownsRow_made w #[] 0 (Nat.le_refl _) (Nat.zero_le _) rfl,(fun h => by cases h),rfl,Lims.nil,by simp [Hid,val],Below.go⟩
 case round =>
  obtain ⟨k,bw,out,hk,hbw0,hbw1,rfl,rfl,hown,hvn,hol,hlo,hv,hb⟩ := hrel
  rcases Nat.lt_or_ge k n with hkn | hkn
  ·have hki : (k : Int) < n := by omega
   obtain ⟨b1,o1,x,rfl,hbl1,hx1, _,hc1⟩ := Sl.getInt (Sl.below HX.out hb) hkn
   have hxl := CX.out.1.get hx1
   have SX := hid (val_take_step hx1)
   have hx0 := hxl.1; have hx1' := hxl.2
   clear hx1 hxl
   have hol' : out.length ≤ 1048576 := by rw [hol.out]; omega
   have C3 := hid (show out.length + 1 ≤ maxLen by unfold maxLen; omega)
   have C4 := hid (show (out.length + 1) * 8 ≤ 140737488355328 by omega)
   have C5 := hid hb.size
   have hkb : (k : Int) ≤ 1048576 := by omega
   have hk1 : k + 1 ≤ n := hkn
   have hlen1 := hid (show ∀ x : Int,(out ++ [x]).length = k + 1 by intro x; rw [List.length_append,hol.out]; rfl)
   clear hol'
   rcases Nat.lt_or_ge k m with hkm | hkm
   ·have hki2 : (k : Int) < m := by omega
    obtain ⟨b2,o2,y,rfl,hbl2,hy1, _,hc2⟩ := Sl.getInt (Sl.below HY.out hb) hkm
    have hyl := CY.out.1.get hy1
    have SY := hid (val_take_step hy1)
    have hy0' := hyl.1; have hy1' := hyl.2
    clear hy1 hyl
    rcases Int.lt_or_le (x - bw - y) 0 with hneg | hneg
    ·have L := hid (show Lims (out ++ [x - bw - y + 1000000000]) from hlo.out.snoc (by omega) (by omega))
     have r := hid (show val (out ++ [x - bw - y + 1000000000]) = val (xs.take (k + 1)) - val (ys.take (k + 1)) + pw (k + 1) * 1 by
      rw [val_snoc,hol.out,hv.out,SX.out,SY.out,pw_succ]; grind)
     clear hn
     go_wp2_with (first | (at_builtin; refine wpList_append_own _ rfl _ _ 28 rfl w.heap.size 3 i0 (.int .i64 0) 1 8 Tryz.underlying28 hi hz0 hz1 hz2 rfl (by decide) _ _ _ rfl (hown.alloc _) ⟨wr.heap.size,0,none⟩ 1 1 [.int .i64 (x - bw - y + 1000000000)] rfl rfl (cell_one_new _ _ _) (fun x hx => by simp at hx; subst hx; rfl) C3.out C4.out (le_alloc C5.out _) ?_; intro v' w3 hown' hgrow' hnil'))
     have hb' := below_push hb hown hgrow'
     first
     | exact ⟨⟨k + 1,1,out ++ [x - bw - y + 1000000000],hk1,Int.zero_le_ofNat 1,Int.le_refl 1,rfl,rfl,own_push hown',(fun h => absurd (hnil'.1 h).2 (by decide)),hlen1.out _,L,r,hb'⟩,meas_succ hkn⟩
     | exact ⟨by (repeat apply Exists.intro); exact ⟨⟨k + 1,1,out ++ [x - bw - y + 1000000000],hk1,Int.zero_le_ofNat 1,Int.le_refl 1,rfl,rfl,own_push hown',(fun h => absurd (hnil'.1 h).2 (by decide)),hlen1.out _,L,r,hb'⟩,rfl⟩,meas_succ hkn⟩
    ·have hneg' : ¬ (x - bw - y < 0) := by omega
     have L := hid (show Lims (out ++ [x - bw - y]) from hlo.out.snoc (by omega) (by omega))
     have r := hid (show val (out ++ [x - bw - y]) = val (xs.take (k + 1)) - val (ys.take (k + 1)) + pw (k + 1) * 0 by
      rw [val_snoc,hol.out,hv.out,SX.out,SY.out,pw_succ]; grind)
     clear hn
     go_wp2_with (first | (at_builtin; refine wpList_append_own _ rfl _ _ 28 rfl w.heap.size 3 i0 (.int .i64 0) 1 8 Tryz.underlying28 hi hz0 hz1 hz2 rfl (by decide) _ _ _ rfl (hown.alloc _) ⟨wr.heap.size,0,none⟩ 1 1 [.int .i64 (x - bw - y)] rfl rfl (cell_one_new _ _ _) (fun x hx => by simp at hx; subst hx; rfl) C3.out C4.out (le_alloc C5.out _) ?_; intro v' w3 hown' hgrow' hnil'))
     have hb' := below_push hb hown hgrow'
     first
     | exact ⟨⟨k + 1,0,out ++ [x - bw - y],hk1,Int.le_refl 0,Int.zero_le_ofNat 1,rfl,rfl,own_push hown',(fun h => absurd (hnil'.1 h).2 (by decide)),hlen1.out _,L,r,hb'⟩,meas_succ hkn⟩
     | exact ⟨by (repeat apply Exists.intro); exact ⟨⟨k + 1,0,out ++ [x - bw - y],hk1,Int.le_refl 0,Int.zero_le_ofNat 1,rfl,rfl,own_push hown',(fun h => absurd (hnil'.1 h).2 (by decide)),hlen1.out _,L,r,hb'⟩,rfl⟩,meas_succ hkn⟩
   ·have hki2 : ¬ ((k : Int) < m) := by omega
    have SY := hid (take_more (k := k) (by rw [hly.out]; exact hkm))
    rcases Int.lt_or_le (x - bw) 0 with hneg | hneg
    ·have L := hid (show Lims (out ++ [x - bw + 1000000000]) from hlo.out.snoc (by omega) (by omega))
     have r := hid (show val (out ++ [x - bw + 1000000000]) = val (xs.take (k + 1)) - val (ys.take (k + 1)) + pw (k + 1) * 1 by
      rw [val_snoc,hol.out,hv.out,SX.out,SY.out,pw_succ]; grind)
     clear hn hkm
     go_wp2_with (first | (at_builtin; refine wpList_append_own _ rfl _ _ 28 rfl w.heap.size 3 i0 (.int .i64 0) 1 8 Tryz.underlying28 hi hz0 hz1 hz2 rfl (by decide) _ _ _ rfl (hown.alloc _) ⟨wr.heap.size,0,none⟩ 1 1 [.int .i64 (x - bw + 1000000000)] rfl rfl (cell_one_new _ _ _) (fun x hx => by simp at hx; subst hx; rfl) C3.out C4.out (le_alloc C5.out _) ?_; intro v' w3 hown' hgrow' hnil'))
     have hb' := below_push hb hown hgrow'
     first
     | exact ⟨⟨k + 1,1,out ++ [x - bw + 1000000000],hk1,Int.zero_le_ofNat 1,Int.le_refl 1,rfl,rfl,own_push hown',(fun h => absurd (hnil'.1 h).2 (by decide)),hlen1.out _,L,r,hb'⟩,meas_succ hkn⟩
     | exact ⟨by (repeat apply Exists.intro); exact ⟨⟨k + 1,1,out ++ [x - bw + 1000000000],hk1,Int.zero_le_ofNat 1,Int.le_refl 1,rfl,rfl,own_push hown',(fun h => absurd (hnil'.1 h).2 (by decide)),hlen1.out _,L,r,hb'⟩,rfl⟩,meas_succ hkn⟩
    ·have hneg' : ¬ (x - bw < 0) := by omega
     have L := hid (show Lims (out ++ [x - bw]) from hlo.out.snoc (by omega) (by omega))
     have r := hid (show val (out ++ [x - bw]) = val (xs.take (k + 1)) - val (ys.take (k + 1)) + pw (k + 1) * 0 by
      rw [val_snoc,hol.out,hv.out,SX.out,SY.out,pw_succ]; grind)
     clear hn hkm
     go_wp2_with (first | (at_builtin; refine wpList_append_own _ rfl _ _ 28 rfl w.heap.size 3 i0 (.int .i64 0) 1 8 Tryz.underlying28 hi hz0 hz1 hz2 rfl (by decide) _ _ _ rfl (hown.alloc _) ⟨wr.heap.size,0,none⟩ 1 1 [.int .i64 (x - bw)] rfl rfl (cell_one_new _ _ _) (fun x hx => by simp at hx; subst hx; rfl) C3.out C4.out (le_alloc C5.out _) ?_; intro v' w3 hown' hgrow' hnil'))
     have hb' := below_push hb hown hgrow'
     first
     | exact ⟨⟨k + 1,0,out ++ [x - bw],hk1,Int.le_refl 0,Int.zero_le_ofNat 1,rfl,rfl,own_push hown',(fun h => absurd (hnil'.1 h).2 (by decide)),hlen1.out _,L,r,hb'⟩,meas_succ hkn⟩
     | exact ⟨by (repeat apply Exists.intro); exact ⟨⟨k + 1,0,out ++ [x - bw],hk1,Int.le_refl 0,Int.zero_le_ofNat 1,rfl,rfl,own_push hown',(fun h => absurd (hnil'.1 h).2 (by decide)),hlen1.out _,L,r,hb'⟩,rfl⟩,meas_succ hkn⟩
  ·obtain rfl : k = n := by omega
   have ht := hid (show trim out = dig (val xs - val ys).toNat by
    have h1 := hv.out
    rw [List.take_of_length_le (Nat.le_of_eq hlx.out)] at h1
    have h3 : ys.length ≤ k := by
     rcases Nat.lt_or_ge xs.length ys.length with h | h
     ·have := Can.lt_of_len CX.out.1 CY.out h; have := HLE.out; omega
     ·rw [← hlx.out]; exact h
    rw [List.take_of_length_le h3] at h1
    have h4 := val_lt hlo.out
    rw [hol.out] at h4
    have h5 := HLE.out
    have hbw : bw = 0 := by
     rcases Int.lt_or_le 0 bw with h | h
     ·have : bw = 1 := by omega
      subst this; omega
     ·omega
    rw [hbw] at h1
    exact trim_dig hlo.out (by omega))
   have hki2 : ¬ ((k : Int) < k) := by omega
   have hI := hid (show ∀ x ∈ out,I64 x from hlo.out.i64)
   rcases row_cases hown with ⟨e, _⟩ | ⟨g1,c1,rfl, _⟩
   ·exact absurd e hvn
   clear hkn hk
   go_wp2_with fail
   refine (spec_trim_row _ _ _ _ out _ hown hI.out).mono ?_
   rintro _ w3 ⟨rfl,hb3,hown3⟩
   have hb' : Below w.heap.size w w3 := Below.go
   go_wp2
   go_ret
   rw [ht.out] at hown3 ⊢
   exact ⟨_, _,rfl,hown3,hb'⟩

set_option maxHeartbeats 2000000 in
theorem spec_l02Mul (A B : Option Addr) (n m c d : Nat) (xs ys : List Int) (bs ds : List Nat) (w : World) (hx : Sl w A n c xs bs) (hy : Sl w B m d ys ds) (hcx : Lims xs) (hcy : Lims ys) (hn : n ≤ 1048576) (hm : m ≤ 1048576) :
  Calls Tryz.prog 168 #[.slice A n c, .slice B m d] w (GivesRow w 3 (dig (val xs * val ys).toNat)) := by
 obtain ⟨i0,hi,hz0,hz1,hz2⟩ := info_parts infoI
 have hlx := hid hx.1
 have hly := hid hy.1
 have HX := hid hx
 have HY := hid hy
 have CX := hid hcx
 have CY := hid hcy
 have b2 := hid (show i0.bytes * (n + m) ≤ 281474976710656 by rw [hz2]; omega)
 have b3 := hid (show n + m ≤ maxLen by unfold maxLen; omega)
 clear hx hy hcx hcy
 rcases Nat.eq_zero_or_pos n with hn0 | hn0
 ·subst hn0
  have e := hid (show dig (val xs * val ys).toNat = [] by rw [List.eq_nil_of_length_eq_zero hlx.out]; simp [val]; rfl)
  go_enter Tryz.func168,Tryz.ntmps168
  go_wp2
  go_ret
  rw [e.out]
  exact ⟨_,rfl,World.ownsRow_nil _ _ _ _,Below.go⟩
 rcases Nat.eq_zero_or_pos m with hm0 | hm0
 ·subst hm0
  have e := hid (show dig (val xs * val ys).toNat = [] by rw [List.eq_nil_of_length_eq_zero hly.out]; simp [val]; rfl)
  have hz : ((n : Int) == 0) = false := by simp; omega
  go_enter Tryz.func168,Tryz.ntmps168
  go_wp2
  go_ret
  rw [e.out]
  exact ⟨_,rfl,World.ownsRow_nil _ _ _ _,Below.go⟩
 have hz : ((n : Int) == 0) = false := by simp; omega
 have hzm : ((m : Int) == 0) = false := by simp; omega
 go_enter Tryz.func168,Tryz.ntmps168
 go_wp2_with (at_make; (refine wpList_make_full _ rfl _ _ 28 rfl w.heap.size 3 i0 (.int .i64 0) 1 Tryz.underlying28 hi hz0 hz1 .i64 .i64 _ _ (n + m) rfl rfl rfl rfl b2.out b3.out (Nat.le_refl _) ?_); intro w1 hown1 hgrow1)
 rw [zeros_row] at hown1
 have hb1 := (Below.refl w.heap.size w).grown hgrow1 (Nat.le_refl _) (by intro k hk; cases hk)
 clear hgrow1 hz hzm hn0 hm0
 go_loopw [28] (fun i wr => ∃ (k : Nat) (zs : List Int),k ≤ n ∧ i = .int .i64 k ∧ wr.ownsRow w.heap.size 3 1 (.slice (some ⟨w.heap.size,0,none⟩) (n + m) (n + m)) (n + m) (zs.map (.int .i64)) ∧ Hid (Lims zs) ∧ Hid (∀ j,k + m ≤ j → j < n + m → zs[j]? = some 0) ∧ Hid (val zs = val (xs.take k) * val ys) ∧ Below w.heap.size w wr) (fun i wr => n - (intOf i).toNat)
 case atStart => exact ⟨0, _,Nat.zero_le _,rfl,hown1,Lims.zeros _,fun j _ hj => by rw [List.getElem?_replicate,if_pos hj],by show val _ = val (xs.take 0) * val ys; rw [val_replicate,List.take_zero]; simp [val],hb1⟩
 case round =>
  obtain ⟨i,zs,hk,rfl,hown,hlz,hzz,hv,hb⟩ := hrel
  clear hown1 hb1 hi hz0 hz1 hz2
  obtain ⟨wo,rfl⟩ : ∃ wo : World,wo = wr := ⟨_,rfl⟩
  rcases Nat.lt_or_ge i n with hkn | hkn
  ·have hki : (i : Int) < n := by omega
   obtain ⟨b1,o1,x,rfl,hb1,hx1, _,hc1⟩ := Sl.getInt HX.out hkn
   have hxl := CX.out.get hx1
   have HX1 := hid hx1
   have hx0 := hxl.1; have hx1' := hxl.2
   clear hxl hx1
   have hc1' := (hb.cell (p := ⟨b1,o1 + i,none⟩) hb1).trans hc1
   have hOwnO := hid hown
   clear hown
   go_wp2_with fail
   go_loopw [8,35] (fun y j wr => ∃ (k : Nat) (cy : Int) (zs : List Int),k ≤ m ∧ 0 ≤ cy ∧ cy < 1000000000 ∧ j = .int .i64 k ∧ y = .int .i64 cy ∧ wr.ownsRow w.heap.size 3 1 (.slice (some ⟨w.heap.size,0,none⟩) (n + m) (n + m)) (n + m) (zs.map (.int .i64)) ∧ Hid (Lims zs) ∧ Hid (∀ j,i + m ≤ j → j < n + m → zs[j]? = some 0) ∧ Hid (val zs + pw (i + k) * cy = val (xs.take i) * val ys + pw i * (x * val (ys.take k))) ∧ Below w.heap.size w wr) (fun y j wr => m - (intOf j).toNat)
   case atStart => exact ⟨0,0,zs,Nat.zero_le _,by omega,by omega,rfl,rfl,hOwnO.out,hlz,hzz,by show val zs + pw (i + 0) * 0 = val (xs.take i) * val ys + pw i * (x * val (ys.take 0)); rw [hv.out,List.take_zero]; simp [val],hb⟩
   case round =>
    obtain ⟨k,cy,us,hkm,hcy0,hcy1,rfl,rfl,hown,hlu,hzu,hvu,hbu⟩ := hrel
    clear hOwnO hlz hzz hv hb hc1 hb1 hc1'
    rcases Nat.lt_or_ge k m with hkl | hkl
    ·have hkj : (k : Int) < m := by omega
     obtain ⟨b2,o2,y,rfl,hb2,hy1, _,hc2⟩ := Sl.getInt HY.out hkl
     have hyl := CY.out.get hy1
     have HY1 := hid hy1
     have hy0 := hyl.1; have hy1' := hyl.2
     clear hyl hy1
     have hc2' := (hbu.cell (p := ⟨b2,o2 + k,none⟩) hb2).trans hc2
     obtain ⟨u,hu,hu0,hu1⟩ := hlu.out.num (j := i + k) (by rw [row_len hown]; omega)
     have HU := hid hu
     obtain ⟨hgl,hcu,hfu⟩ := row_cell hown hu
     clear hu hc2 hb2
     obtain ⟨hp0,hp1⟩ := mul_lim hx0 hx1' hy0 hy1'
     have hkb : (k : Int) ≤ 1048576 := by omega
     have hib : (i : Int) ≤ 1048576 := by omega
     have hik : (i : Int) + k < n + m := by omega
     have hk1 : k + 1 ≤ m := hkl
     have E0 := hid (show 0 ≤ (u + x * y + cy) / 1000000000 by omega)
     have E1 := hid (show (u + x * y + cy) / 1000000000 < 1000000000 by omega)
     have L := hid (hlu.out.set (i + k) (u := (u + x * y + cy) % 1000000000) (by omega) (by omega))
     have Z := hid (show ∀ j,i + m ≤ j → j < n + m → (us.set (i + k) ((u + x * y + cy) % 1000000000))[j]? = some 0 by
      intro j h1 h2; rw [List.getElem?_set_ne (by omega)]; exact hzu.out j h1 h2)
     have r := hid (show val (us.set (i + k) ((u + x * y + cy) % 1000000000)) + pw (i + (k + 1)) * ((u + x * y + cy) / 1000000000) = val (xs.take i) * val ys + pw i * (x * val (ys.take (k + 1))) by
      rw [show i + (k + 1) = i + k + 1 from rfl,mul_step HU.out hvu.out,val_take_step HY1.out,pw_add]
      grind)
     have R := hid (row_set hown (i + k) ((u + x * y + cy) % 1000000000))
     have hb' := hid (hbu.setCell (p := ⟨w.heap.size,i + k,none⟩) (Nat.le_refl _) (.int .i64 ((u + x * y + cy) % 1000000000)))
     go_wp2_with fail
     first
     | exact ⟨⟨k + 1,(u + x * y + cy) / 1000000000, _,hk1,E0.out,E1.out,rfl,rfl,R.out,L.out,Z.out,r.out,hb'.out⟩,meas_succ hkl⟩
     | exact ⟨by (repeat apply Exists.intro); exact ⟨⟨k + 1,(u + x * y + cy) / 1000000000, _,hk1,E0.out,E1.out,rfl,rfl,R.out,L.out,Z.out,r.out,hb'.out⟩,rfl⟩,meas_succ hkl⟩
    ·have hke : k = m := by omega
     subst hke
     have hkj : ¬ ((k : Int) < k) := by omega
     have HU := hid (hzu.out (i + k) (Nat.le_refl _) (by omega))
     obtain ⟨hgl,hcu,hfu⟩ := row_cell hown HU.out
     have hkb : (k : Int) ≤ 1048576 := by omega
     have hib : (i : Int) ≤ 1048576 := by omega
     have hik : (i : Int) + k < n + k := by omega
     have hk1 : i + 1 ≤ n := hkn
     have L := hid (hlu.out.set (i + k) (u := cy) hcy0 hcy1)
     have Z := hid (show ∀ j,i + 1 + k ≤ j → j < n + k → (us.set (i + k) cy)[j]? = some 0 by
      intro j h1 h2; rw [List.getElem?_set_ne (by omega)]; exact hzu.out j (by omega) h2)
     have r := hid (show val (us.set (i + k) cy) = val (xs.take (i + 1)) * val ys by
      have h1 := hvu.out
      rw [List.take_of_length_le (Nat.le_of_eq hly.out)] at h1
      rw [val_set HU.out,val_take_step HX1.out]
      grind)
     have R := hid (row_set hown (i + k) cy)
     have hb' := hid (hbu.setCell (p := ⟨w.heap.size,i + k,none⟩) (Nat.le_refl _) (.int .i64 cy))
     clear hkl
     go_wp2_with fail
     first
     | exact ⟨⟨i + 1, _,hk1,rfl,R.out,L.out,Z.out,r.out,hb'.out⟩,meas_succ hkn⟩
     | exact ⟨by (repeat apply Exists.intro); exact ⟨⟨i + 1, _,hk1,rfl,R.out,L.out,Z.out,r.out,hb'.out⟩,rfl⟩,meas_succ hkn⟩
  ·have hke : i = n := by omega
   subst hke
   have ht := hid (show trim zs = dig (val xs * val ys).toNat by
    have h1 := hv.out
    rw [List.take_of_length_le (Nat.le_of_eq hlx.out)] at h1
    have h2 := Int.mul_nonneg (val_nonneg CX.out) (val_nonneg CY.out)
    exact trim_dig hlz.out (by omega))
   have hki2 : ¬ ((i : Int) < i) := by omega
   clear hkn hk
   go_wp2_with fail
   refine (spec_trim_row _ _ _ _ zs _ hown hlz.out.i64).mono ?_
   rintro _ w3 ⟨rfl,hb3,hown3⟩
   have hb' : Below w.heap.size w w3 := Below.go
   go_wp2
   go_ret
   rw [ht.out] at hown3 ⊢
   exact ⟨_,rfl,hown3,hb'⟩

set_option maxHeartbeats 2000000 in
theorem spec_l02Small (A : Option Addr) (n c : Nat) (xs : List Int) (bs : List Nat) (d : Int) (w : World) (hx : Sl w A n c xs bs) (hcx : Lims xs) (hd0 : 0 < d) (hd1 : d < 1000000000) (hn : n ≤ 1048576) :
  Calls Tryz.prog 204 #[.slice A n c, .int .i64 d] w (GivesRowInt w (dig (val xs / d).toNat) (val xs % d)) := by
 obtain ⟨i0,hi,hz0,hz1,hz2⟩ := info_parts infoI
 have hlx := hid hx.1
 have HX := hid hx
 have CX := hid hcx
 have b2 := hid (show i0.bytes * n ≤ 281474976710656 by rw [hz2]; omega)
 have b3 := hid (show n ≤ maxLen by unfold maxLen; omega)
 clear hx hcx
 go_enter Tryz.func204,Tryz.ntmps204
 go_wp2_with (at_make; (refine wpList_make_full _ rfl _ _ 28 rfl w.heap.size 3 i0 (.int .i64 0) 1 Tryz.underlying28 hi hz0 hz1 .i64 .i64 _ _ n rfl rfl rfl rfl b2.out b3.out (Nat.le_refl _) ?_); intro w1 hown1 hgrow1)
 rw [zeros_row] at hown1
 have hb1 := (Below.refl w.heap.size w).grown hgrow1 (Nat.le_refl _) (by intro k hk; cases hk)
 clear hgrow1
 go_loopw [7,8] (fun r i wr => ∃ (K : Nat) (q : Int) (zs : List Int),K ≤ n ∧ i = .int .i64 ((K : Int) - 1) ∧ r = .int .i64 q ∧ 0 ≤ q ∧ q < d ∧ wr.ownsRow w.heap.size 3 1 (.slice (some ⟨w.heap.size,0,none⟩) n n) n (zs.map (.int .i64)) ∧ Hid (Lims zs) ∧ Hid (val (zs.drop K) * d + q = val (xs.drop K)) ∧ Below w.heap.size w wr) (fun r i wr => (intOf i + 1).toNat)
 case atStart =>
  refine ⟨n,0, _,Nat.le_refl _,rfl,rfl,Int.le_refl _,hd0,hown1,Lims.zeros _, ?_,hb1⟩
  show val ((List.replicate n (0 : Int)).drop n) * d + 0 = val (xs.drop n)
  rw [List.drop_eq_nil_of_le (by simp),List.drop_eq_nil_of_le (Nat.le_of_eq hlx.out)]; simp [val]
 case round =>
  obtain ⟨K,q,zs,hK,rfl,rfl,hq0,hq1,hown,hlz,hv,hb⟩ := hrel
  clear hown1 hb1 hi hz0 hz1 hz2
  rcases Nat.eq_zero_or_pos K with h0 | h0
  ·subst h0
   have e := hid (show dig (val xs / d).toNat = trim zs ∧ val xs % d = q by
    have h1 := hv.out
    rw [List.drop_zero,List.drop_zero] at h1
    obtain ⟨e1,e2⟩ := div_of hd0 h1 hq0 hq1
    refine ⟨?_,e2⟩
    rw [e1]; exact (trim_dig hlz.out (Int.toNat_of_nonneg (val_nonneg hlz.out)).symm).symm)
   have hneg : ¬ ((0 : Int) ≤ ((0 : Nat) : Int) - 1) := by omega
   go_wp2_with fail
   refine (spec_trim_row _ _ _ _ zs _ hown hlz.out.i64).mono ?_
   rintro _ w3 ⟨rfl,hb3,hown3⟩
   have hb' : Below w.heap.size w w3 := Below.go
   go_wp2
   go_ret2
   rw [e.out.1,e.out.2]
   exact ⟨_,rfl,hown3,hb'⟩
  ·obtain ⟨j,rfl⟩ : ∃ j,K = j + 1 := ⟨K - 1,by omega⟩
   have ej : (((j + 1 : Nat) : Int) - 1) = j := by omega
   rw [ej]
   have hjn : j < n := hK
   obtain ⟨b1,o1,x,rfl,hb1,hx1, _,hc1⟩ := Sl.getInt HX.out hjn
   have hxl := CX.out.get hx1
   have HX1 := hid hx1
   have hx0 := hxl.1; have hx1' := hxl.2
   have hc1' := (hb.cell (p := ⟨b1,o1 + j,none⟩) hb1).trans hc1
   have hb1' : b1 < wr.heap.size := by have := hb.size; omega
   clear hxl hx1 hc1 hb1
   obtain ⟨u,hu,hu0,hu1⟩ := hlz.out.num (j := j) (by rw [row_len hown]; omega)
   obtain ⟨hgl,hcu,hfu⟩ := row_cell hown hu
   have HJ := hid (show j < zs.length by rw [row_len hown]; omega)
   clear hu hu0 hu1
   have Q := hid (quo_lim hd0 hq0 hq1 hx0 hx1')
   have Q1 : 0 ≤ q * 1000000000 + x := by omega
   have r := hid (div_step HJ.out HX1.out hv.out)
   have L := hid (hlz.out.set j Q.out.1 Q.out.2.1)
   have R := hid (row_set hown j ((q * 1000000000 + x) / d))
   have hb' := hid (hb.setCell (p := ⟨w.heap.size,j,none⟩) (Nat.le_refl _) (.int .i64 ((q * 1000000000 + x) / d)))
   have hjl : (j : Int) < n := by omega
   have hnb : (n : Int) ≤ 1048576 := by omega
   have hj1 : j ≤ n := by omega
   have hd1' : 1 ≤ d := by omega
   have rm : (intOf (Value.int .i64 ((j : Int) - 1)) + 1).toNat < (intOf (Value.int .i64 (j : Int)) + 1).toNat := by simp [intOf]
   clear ej hK h0
   go_wp2_with fail
   first
   | exact ⟨⟨j,(q * 1000000000 + x) % d, _,hj1,rfl,rfl,Q.out.2.2.1,Q.out.2.2.2,R.out,L.out,r.out,hb'.out⟩,rm⟩
   | exact ⟨by (repeat apply Exists.intro); exact ⟨⟨j,(q * 1000000000 + x) % d, _,hj1,rfl,rfl,Q.out.2.2.1,Q.out.2.2.2,R.out,L.out,r.out,hb'.out⟩,rfl⟩,rm⟩

theorem row_lit (w : World) (xs : List Int) (hm : xs.length ≤ maxLen) : (w.alloc (.cells (xs.map (.int .i64)).toArray 3)).ownsRow w.heap.size 3 1 (.slice (some ⟨w.heap.size,0,none⟩) xs.length xs.length) xs.length (xs.map (.int .i64)) :=
 ⟨by simp, .inr ⟨w.heap.size,xs.length, _,rfl,Nat.le_refl _,heap_alloc_new w _,Nat.le_refl _,hm,by simp,by simp [← List.map_take]⟩⟩

theorem sgn_le {a : Int} : sgn a ≤ 0 ↔ a ≤ 0 := by unfold sgn; split <;> (try split) <;> omega

set_option maxHeartbeats 1000000 in
theorem spec_l02Digit (A B : Option Addr) (n m c d : Nat) (rs ys : List Int) (bs ds : List Nat) (w : World) (hx : Sl w A n c rs bs) (hy : Sl w B m d ys ds) (hcx : XN.Can rs) (hcy : XN.Can ys) (hm : m ≤ 65536) (hy0 : 0 < val ys) (hr : val rs < 1000000000 * val ys) :
  Calls Tryz.prog 205 #[.slice A n c, .slice B m d] w (Gives w (.int .i64 (val rs / val ys))) := by
 have HX := hid hx
 have HY := hid hy
 have CX := hid hcx
 have CY := hid hcy
 have HY0 := hid hy0
 have hx0 := val_nonneg hcx.1
 have S1 := hid (show 0 * val ys ≤ val rs by omega)
 have S2 := hid (show val rs < (999999999 + 1) * val ys by omega)
 clear hx hy hcx hcy hy0 hr hx0
 go_enter Tryz.func205,Tryz.ntmps205
 go_wp2_with fail
 go_loopw [5,6] (fun a b wr => ∃ lo hi : Int,a = .int .i64 lo ∧ b = .int .i64 hi ∧ 0 ≤ lo ∧ lo ≤ hi ∧ hi ≤ 999999999 ∧ Hid (lo * val ys ≤ val rs) ∧ Hid (val rs < (hi + 1) * val ys) ∧ Below w.heap.size w wr) (fun a b wr => (intOf b - intOf a).toNat)
 case atStart => exact ⟨0,999999999,rfl,rfl,by omega,by omega,by omega,S1,S2,Below.refl _ _⟩
 case round =>
  obtain ⟨lo,hi,rfl,rfl,h0,h1,h2,hl,hh,hb⟩ := hrel
  rcases Int.lt_or_le lo hi with h | h
  ·obtain ⟨q,hq⟩ : ∃ q,q = (lo + hi + 1) / 2 := ⟨_,rfl⟩
   have hq0 : lo < q := by omega
   have hq1 : q ≤ hi := by omega
   have hdl := hid (show (dig q.toNat).length ≤ 65536 from Nat.le_trans (dig_len (k := 1) (by rw [pw_vals.1]; omega)) (by decide))
   have hq9 : q ≤ 9223372036854775807 := by omega
   have EV := hid (show val ys * val (dig q.toNat) = q * val ys by rw [val_dig,Int.toNat_of_nonneg (by omega),Int.mul_comm])
   have EV2 := hid (show val (dig (val ys * val (dig q.toNat)).toNat) = q * val ys by
    rw [val_dig,EV.out,Int.toNat_of_nonneg (Int.mul_nonneg (by omega) (by have := HY0.out; omega))])
   rcases Int.lt_or_le (val rs) (q * val ys) with hc | hc
   ·have SG := hid (show ¬ (sgn (q * val ys - val rs) ≤ 0) by rw [sgn_le]; omega)
    have r := hid (show val rs < (q - 1 + 1) * val ys by rw [Int.sub_add_cancel]; exact hc)
    have rm := hid (show (intOf (Value.int .i64 (q - 1)) - intOf (.int .i64 lo)).toNat < (intOf (Value.int .i64 hi) - intOf (.int .i64 lo)).toNat by simp [intOf]; omega)
    have r1 : lo ≤ q - 1 := by omega
    have r2 : q - 1 ≤ 999999999 := by omega
    clear hc
    subst hq
    go_wp2_with fail
    refine (spec_NatOf ((lo + hi + 1) / 2) wr hq9).mono ?_
    rintro _ w1 ⟨A1,n1,c1,s1,rfl,hs1,ho1,hb1⟩
    have H1 := hid hs1
    have hn1 := hid (show n1 ≤ 65536 by rw [← hs1.1]; exact hdl.out)
    clear hs1 ho1
    have hbb1 := Below.next hb hb1
    go_wp2_with fail
    refine (spec_l02Mul B A1 m n1 d c1 ys _ _ _ w1 (Sl.below HY.out hbb1) H1.out CY.out.1 (dig_can _).1 (Nat.le_trans hm (by decide)) (Nat.le_trans hn1.out (by decide))).mono ?_
    rintro _ w2 ⟨v2,rfl,hown2,hb2⟩
    obtain ⟨A2,c2,rfl⟩ := row_any hown2
    obtain ⟨s2,hs2⟩ := row_sl hown2 (dig_can _).1.i64
    have H2 := hid hs2
    clear hs2 hown2
    have hbb2 := Below.next hbb1 hb2
    go_wp2_with fail
    have C := spec_l02Cmp A2 A _ n c2 c _ rs _ _ w2 H2.out (Sl.below HX.out hbb2) (dig_can _) CX.out
    rw [EV2.out] at C
    refine C.mono ?_
    clear C
    rintro _ w3 ⟨rfl,hb3⟩
    have hbb3 := Below.next hbb2 hb3
    have SG' := SG.out
    generalize (sgn ((lo + hi + 1) / 2 * val ys - val rs)) = sg at *
    clear hb hb1 hb2 hb3 hbb1 hbb2 SG H1 H2
    go_wp2_with fail
    first
    | exact ⟨⟨lo,(lo + hi + 1) / 2 - 1,rfl,rfl,h0,r1,r2,hl,r,hbb3⟩,rm.out⟩
    | exact ⟨by (repeat apply Exists.intro); exact ⟨⟨lo,(lo + hi + 1) / 2 - 1,rfl,rfl,h0,r1,r2,hl,r,hbb3⟩,rfl⟩,rm.out⟩
   ·have SG := hid (show sgn (q * val ys - val rs) ≤ 0 by rw [sgn_le]; omega)
    have r := hid (show q * val ys ≤ val rs from hc)
    have rm := hid (show (intOf (Value.int .i64 hi) - intOf (.int .i64 q)).toNat < (intOf (Value.int .i64 hi) - intOf (.int .i64 lo)).toNat by simp [intOf]; omega)
    have r1 : 0 ≤ q := by omega
    clear hc
    subst hq
    go_wp2_with fail
    refine (spec_NatOf ((lo + hi + 1) / 2) wr hq9).mono ?_
    rintro _ w1 ⟨A1,n1,c1,s1,rfl,hs1,ho1,hb1⟩
    have H1 := hid hs1
    have hn1 := hid (show n1 ≤ 65536 by rw [← hs1.1]; exact hdl.out)
    clear hs1 ho1
    have hbb1 := Below.next hb hb1
    go_wp2_with fail
    refine (spec_l02Mul B A1 m n1 d c1 ys _ _ _ w1 (Sl.below HY.out hbb1) H1.out CY.out.1 (dig_can _).1 (Nat.le_trans hm (by decide)) (Nat.le_trans hn1.out (by decide))).mono ?_
    rintro _ w2 ⟨v2,rfl,hown2,hb2⟩
    obtain ⟨A2,c2,rfl⟩ := row_any hown2
    obtain ⟨s2,hs2⟩ := row_sl hown2 (dig_can _).1.i64
    have H2 := hid hs2
    clear hs2 hown2
    have hbb2 := Below.next hbb1 hb2
    go_wp2_with fail
    have C := spec_l02Cmp A2 A _ n c2 c _ rs _ _ w2 H2.out (Sl.below HX.out hbb2) (dig_can _) CX.out
    rw [EV2.out] at C
    refine C.mono ?_
    clear C
    rintro _ w3 ⟨rfl,hb3⟩
    have hbb3 := Below.next hbb2 hb3
    have SG' := SG.out
    generalize (sgn ((lo + hi + 1) / 2 * val ys - val rs)) = sg at *
    clear hb hb1 hb2 hb3 hbb1 hbb2 SG H1 H2
    go_wp2_with fail
    first
    | exact ⟨⟨(lo + hi + 1) / 2,hi,rfl,rfl,r1,hq1,h2,r,hh,hbb3⟩,rm.out⟩
    | exact ⟨by (repeat apply Exists.intro); exact ⟨⟨(lo + hi + 1) / 2,hi,rfl,rfl,r1,hq1,h2,r,hh,hbb3⟩,rfl⟩,rm.out⟩
  ·obtain rfl : lo = hi := by omega
   have e := hid (show lo = val rs / val ys by
    have h3 := HY0.out
    have h4 := hl.out
    have h5 := hh.out
    symm
    refine (Int.ediv_eq_iff_of_pos h3).2 ⟨h4, ?_⟩
    rw [Int.add_mul,Int.one_mul] at h5
    exact h5)
   have h' : ¬ (lo < lo) := by omega
   go_wp2
   go_ret
   exact ⟨ret_int e.out,hb⟩

set_option maxHeartbeats 1000000 in
theorem spec_l02Plain (a b : Int) (w : World) (ha : 0 ≤ a) (hb : 0 ≤ b) (ha1 : a ≤ 9223372036854775807) (hb1 : b ≤ 9223372036854775807) :
  Calls Tryz.prog 188 #[.int .i64 a, .int .i64 b] w (GivesRow w 3 (dig (Int.gcd a b))) := by
 go_enter Tryz.func188,Tryz.ntmps188
 go_wp2_with fail
 go_loopg [0,1] b.toNat (fun g s0 s1 wr => ∃ x y : Int,s0 = .int .i64 x ∧ s1 = .int .i64 y ∧ 0 ≤ x ∧ x ≤ 9223372036854775807 ∧ 0 ≤ y ∧ y ≤ 9223372036854775807 ∧ Hid (Int.gcd x y = Int.gcd a b) ∧ Hid (y = g) ∧ Below w.heap.size w wr)
 case atStart => exact ⟨a,b,rfl,rfl,ha,ha1,hb,hb1,rfl,(Int.toNat_of_nonneg hb).symm,Below.refl _ _⟩
 case round =>
  obtain ⟨x,y,rfl,rfl,hx0,hx1,hy0,hy1,hg,hk,hbw⟩ := hrel
  by_cases hy : 0 < y
  ·have r0 := hid (show 0 ≤ x % y ∧ x % y < y from ⟨Int.emod_nonneg _ (by omega),Int.emod_lt_of_pos _ hy⟩)
   have r1 := hid (show Int.gcd y (x % y) = Int.gcd a b by rw [gcd_step]; exact hg.out)
   have rm := hid (show (x % y).toNat < gk ∧ x % y ≤ 9223372036854775807 ∧ x % y = ((x % y).toNat : Int) by have := r0.out; have := hk.out; omega)
   have hy' : 1 ≤ y := hy
   go_wp2_with fail
   go_roundg (x % y).toNat
   case measure => exact rm.out.1
   case rel => exact ⟨y,x % y,rfl,rfl,hy0,hy1,r0.out.1,rm.out.2.1,r1,rm.out.2.2,hbw⟩
  ·obtain rfl : y = 0 := by omega
   have e := hid (show x.toNat = Int.gcd a b by rw [← hg.out,Int.gcd_zero_right]; omega)
   go_wp2_with fail
   refine (spec_NatOf_row x _ hx1).mono ?_
   rintro _ w1 ⟨v,rfl,hown,hb2⟩
   have hb' := Below.next hbw hb2
   have hown' := ownsRow_base hown hbw.size
   rw [e.out] at hown'
   go_wp2
   go_ret
   exact ⟨_,rfl,hown',hb'⟩

def GivesIntOk (w : World) (r : Int) (b : Bool) (e : Ending) (w' : World) : Prop :=
 e = .returned (.tuple #[.int .i64 r, .bool b]) ∧ Below w.heap.size w w'

set_option maxHeartbeats 1000000 in
theorem spec_NatToInt (A : Option Addr) (n c : Nat) (xs : List Int) (bs : List Nat) (w : World) (hx : Sl w A n c xs bs) (hcx : XN.Can xs) (hn : n ≤ 2) :
  Calls Tryz.prog 187 #[.slice A n c] w (GivesIntOk w (val xs) true) := by
 have HL := hid hx.1
 have HX := hid hx
 have CX := hid hcx
 have hok := hid (show natOkB xs = true from natOkB_iff.2 ⟨by rw [hx.1]; omega,hcx⟩)
 have hlim := hid (show [854775807,223372036,9].length ≤ maxLen by decide)
 have LC := hid (show XN.Can [854775807,223372036,9] from ⟨Lims.cons (by decide) (by decide) (Lims.cons (by decide) (by decide) (Lims.one (by decide) (by decide))),by decide⟩)
 have SG := hid (show sgn (val xs - val [854775807,223372036,9]) = -1 from sgn_lt (XN.Can.lt_of_len hcx.1 LC.out (by rw [hx.1]; simp; omega)))
 have hcm : c ≤ maxLen := hx.2.2.1
 have hnc := hx.2.1
 unfold maxLen at hcm
 clear hx hcx
 go_enter Tryz.func187,Tryz.ntmps187
 go_wp2_with fail
 have C := spec_NatOk A n c xs bs w HX.out
 rw [hok.out] at C
 refine C.mono ?_
 clear C
 rintro _ w1 ⟨rfl,hb1⟩
 go_wp2_with fail
 have RL := hid (row_lit w1 [854775807,223372036,9] hlim.out)
 obtain ⟨ls,hls⟩ := row_sl RL.out (fun x hx => LC.out.1.i64 x hx)
 have hb2 : Below w.heap.size w (w1.alloc (Obj.cells #[.int .i64 854775807, .int .i64 223372036, .int .i64 9] 3)) := Below.go
 have C := spec_l02Cmp A _ n 3 c 3 xs _ bs ls _ (Sl.below HX.out hb2) hls CX.out LC.out
 rw [SG.out] at C
 refine C.mono ?_
 clear C
 rintro _ w2 ⟨rfl,hb3⟩
 have hb4 := Below.next hb2 hb3
 clear hls RL hb1 hb2 hb3
 go_wp2_with fail
 go_loopw [4,5] (fun a i wr => ∃ (K : Nat) (q : Int),K ≤ n ∧ i = .int .i64 ((K : Int) - 1) ∧ a = .int .i64 q ∧ Hid (q = val (xs.drop K)) ∧ Below w.heap.size w wr) (fun a i wr => (intOf i + 1).toNat)
 case atStart =>
  refine ⟨n,0,Nat.le_refl _,rfl,rfl, ?_,hb4⟩
  show 0 = val (xs.drop n)
  rw [List.drop_eq_nil_of_le (Nat.le_of_eq HL.out)]; rfl
 case round =>
  obtain ⟨K,q,hK,rfl,rfl,hq,hb⟩ := hrel
  clear hb4
  rcases Nat.eq_zero_or_pos K with h0 | h0
  ·subst h0
   have e := hid (show q = val xs by rw [hq.out,List.drop_zero])
   have hneg : ¬ ((0 : Int) ≤ ((0 : Nat) : Int) - 1) := by omega
   go_wp2
   go_ret2
   rw [e.out]
   exact ⟨rfl,hb⟩
  ·obtain ⟨j,rfl⟩ : ∃ j,K = j + 1 := ⟨K - 1,by omega⟩
   have ej : (((j + 1 : Nat) : Int) - 1) = j := by omega
   rw [ej]
   have hjn : j < n := hK
   obtain ⟨b1,o1,x,rfl,hb1,hx1, _,hc1⟩ := Sl.getInt (Sl.below HX.out hb) hjn
   have hxl := CX.out.1.get hx1
   have r := hid (show q * 1000000000 + x = val (xs.drop j) by rw [val_drop_step hx1, ← hq.out]; omega)
   have hx0 := hxl.1; have hx1' := hxl.2
   have hq0 : 0 ≤ q := by rw [hq.out]; exact val_nonneg (CX.out.1.drop _)
   have hq1 : q < 1000000000 := by
    rw [hq.out]
    have h1 := val_lt (CX.out.1.drop (j + 1))
    have h2 := pw_mono (show (xs.drop (j + 1)).length ≤ 1 by rw [List.length_drop,HL.out]; omega)
    rw [pw_vals.1] at h2
    omega
   have hjl : (j : Int) < n := by omega
   have hnb : (j : Int) + 1 ≤ c := by omega
   have hj1 : j ≤ n := by omega
   have rm : (intOf (Value.int .i64 ((j : Int) - 1)) + 1).toNat < (intOf (Value.int .i64 (j : Int)) + 1).toNat := by simp [intOf]
   clear ej hK h0 hx1 hxl
   go_wp2_with fail
   first
   | exact ⟨⟨j,q * 1000000000 + x,hj1,rfl,rfl,r,hb⟩,rm⟩
   | exact ⟨by (repeat apply Exists.intro); exact ⟨⟨j,q * 1000000000 + x,hj1,rfl,rfl,r,hb⟩,rfl⟩,rm⟩

theorem ownsRow_above {w W : World} {lo size n : Nat} {e : TypeId} {v : Value} {xs : List Value} (h : w.ownsRow lo e size v n xs) (ha : Above lo w W) : W.ownsRow lo e size v n xs := by
 refine ⟨h.1, ?_⟩
 rcases h.2 with hn | ⟨g,cap,cur,rfl,hb,hgg,rest⟩
 ·exact .inl hn
 ·exact .inr ⟨g,cap,cur,rfl,hb,(ha.block g hb (lt_of_get hgg)).trans hgg,rest⟩
theorem trim_cons {x : Int} {rs : List Int} (hx0 : 0 ≤ x) (hx1 : x < 1000000000) (hr : Lims rs) : trim (x :: rs) = dig (x + 1000000000 * val rs).toNat := by
 have h0 := val_nonneg hr
 exact trim_dig (Lims.cons hx0 hx1 hr) (by simp only [val]; omega)
theorem div_keep {zs xs : List Int} {j : Nat} {x V R : Int} (hz : zs[j]? = some 0) (hx : xs[j]? = some x) (h : val (zs.drop (j + 1)) * V + R = val (xs.drop (j + 1))) : val (zs.drop j) * V + (x + 1000000000 * R) = val (xs.drop j) := by
 rw [val_drop_step hz,val_drop_step hx, ← h]; grind
theorem div_put {zs xs : List Int} {j : Nat} {x V R q : Int} (hz : zs[j]? = some 0) (hx : xs[j]? = some x) (h : val (zs.drop (j + 1)) * V + R = val (xs.drop (j + 1))) : val ((zs.set j q).drop j) * V + (x + 1000000000 * R - q * V) = val (xs.drop j) := by
 rw [drop_set (List.getElem?_eq_some_iff.1 hz).1,val_drop_step hx, ← h]; simp only [val]; grind

set_option maxHeartbeats 4000000 in
set_option maxRecDepth 10000 in
theorem spec_l02Div (A B : Option Addr) (n m c d : Nat) (xs ys : List Int) (bs ds : List Nat) (w : World) (hx : Sl w A n c xs bs) (hy : Sl w B m d ys ds) (hcx : XN.Can xs) (hcy : XN.Can ys) (hn : n ≤ 65536) (hm0 : 0 < m) (hm : m ≤ 65536) :
  Calls Tryz.prog 189 #[.slice A n c, .slice B m d] w (GivesPair w (dig (val xs / val ys).toNat) (dig (val xs % val ys).toNat)) := by
 obtain ⟨i0,hi,hz0,hz1,hz2⟩ := info_parts infoI
 have HX := hid hx
 have HY := hid hy
 have CX := hid hcx
 have CY := hid hcy
 have LX := hid hx.1
 have LY := hid hy.1
 have PX := hid (val_nonneg hcx.1)
 have PY := hid (hcy.pos (by intro e; rw [← hy.1,e] at hm0; simp at hm0))
 have hcm : c ≤ maxLen := hx.2.2.1
 have hnc := hx.2.1
 unfold maxLen at hcm
 clear hx hy hcx hcy
 by_cases h1 : m = 1
 ·subst h1
  obtain ⟨b,off,y,rfl,hbl,hy1,hI,hc⟩ := Sl.getInt HY.out (k := 0) (by decide)
  simp only [Nat.add_zero] at hc
  have EY := hid (show val ys = y by
   have h := LY.out
   match ys,h with
   | [z], _ => simp at hy1; subst hy1; simp [val])
  have hyl := CY.out.1.get hy1
  have hy0 : 0 < y := by rw [← EY.out]; exact PY.out
  have hy2 := hyl.2
  have R0 := hid (Int.emod_lt_of_pos (val xs) hy0)
  clear hy1 hyl hI
  go_enter Tryz.func189,Tryz.ntmps189
  go_wp2_with fail
  refine (spec_l02Small A n c xs bs y _ HX.out CX.out.1 hy0 hy2 (Nat.le_trans hn (by decide))).mono ?_
  rintro _ w1 ⟨v1,rfl,hq,hb1⟩
  go_wp2_with fail
  refine (spec_NatOf_row (val xs % y) w1 (by have := R0.out; omega)).mono ?_
  rintro _ w2 ⟨v2,rfl,hr,hb2⟩
  have hq' := ownsRow_below hq hb2
  go_wp2
  go_ret2
  rw [EY.out]
  exact gives_pair hq' hr (dig_can _).1.i64 (dig_can _).1.i64 (Nat.le_refl _) hb1.size (apart_rows hq hr) (Below.next hb1 hb2)
 ·have hz : ((m : Int) == 1) = false := by simp; omega
  have b2 := hid (show i0.bytes * n ≤ 281474976710656 by rw [hz2]; omega)
  have b3 := hid (show n ≤ maxLen by unfold maxLen; omega)
  go_enter Tryz.func189,Tryz.ntmps189
  go_wp2_with (at_make; (refine wpList_make_full _ rfl _ _ 28 rfl w.heap.size 3 i0 (.int .i64 0) 1 Tryz.underlying28 hi hz0 hz1 .i64 .i64 _ _ n rfl rfl rfl rfl b2.out b3.out (Nat.le_refl _) ?_); intro w1 hown1 hgrow1)
  rw [zeros_row] at hown1
  have hb1 := (Below.refl w.heap.size w).grown hgrow1 (Nat.le_refl _) (by intro k hk; cases hk)
  have hlt1 := (World.ownsRow.lt hown1 _ rfl).2
  clear hgrow1 hz h1
  go_loopw [9,10] (fun v i wr => ∃ (K : Nat) (zs rs : List Int),K ≤ n ∧ i = .int .i64 ((K : Int) - 1) ∧ wr.ownsRow w.heap.size 3 1 (.slice (some ⟨w.heap.size,0,none⟩) n n) n (zs.map (.int .i64)) ∧ wr.ownsRow (w.heap.size + 1) 3 1 v rs.length (rs.map (.int .i64)) ∧ v ≠ .slice none 0 0 ∧ Hid (Lims zs) ∧ Hid (∀ i,i < K → zs[i]? = some 0) ∧ Hid (XN.Can rs) ∧ Hid (val rs < val ys) ∧ Hid (val (zs.drop K) * val ys + val rs = val (xs.drop K)) ∧ Below w.heap.size w wr) (fun v i wr => (intOf i + 1).toNat)
  case atStart =>
   refine ⟨n, _, [],Nat.le_refl _,rfl,hown1.alloc _,World.ownsRow_made w1 #[] 0 hlt1 (Nat.zero_le _) rfl,(fun h => by cases h),Lims.zeros n,fun i h => ?_,Can.nil,PY.out, ?_,Below.go⟩
   ·rw [List.getElem?_replicate,if_pos h]
   ·show val ((List.replicate n (0 : Int)).drop n) * val ys + 0 = val (xs.drop n)
    rw [List.drop_eq_nil_of_le (by simp),List.drop_eq_nil_of_le (Nat.le_of_eq LX.out)]; simp [val]
  case round =>
   obtain ⟨K,zs,rs,hK,rfl,hown,hrest,hvn,hlz,hzz,hcr,hrV,hv,hb⟩ := hrel
   clear hown1 hb1 hlt1
   rcases Nat.eq_zero_or_pos K with h0 | h0
   ·subst h0
    have e := hid (show trim zs = dig (val xs / val ys).toNat ∧ rs = dig (val xs % val ys).toNat by
     have h1 := hv.out
     rw [List.drop_zero,List.drop_zero] at h1
     obtain ⟨e1,e2⟩ := div_of PY.out h1 (val_nonneg hcr.out.1) hrV.out
     rw [e1,e2]
     exact ⟨trim_dig hlz.out (Int.toNat_of_nonneg (val_nonneg hlz.out)).symm,hcr.out.eq_dig⟩)
    have hneg : ¬ ((0 : Int) ≤ ((0 : Nat) : Int) - 1) := by omega
    go_wp2_with fail
    refine (spec_trim_row _ _ _ _ zs _ hown hlz.out.i64).mono ?_
    rintro _ w3 ⟨rfl,hb3,hown3⟩
    have hb' : Below w.heap.size w w3 := Below.go
    have hrest3 := ownsRow_below hrest hb3
    go_wp2
    go_ret2
    rw [e.out.1] at hown3 ⊢
    rw [e.out.2] at hrest3
    refine gives_pair hown3 hrest3 (dig_can _).1.i64 (dig_can _).1.i64 (Nat.le_refl _) (by omega) ?_ hb'
    intro g1 g2 e1 e2
    have := own_base hrest3 _ e2
    simp [Value.ownBlock] at e1
    omega
   ·obtain ⟨j,rfl⟩ : ∃ j,K = j + 1 := ⟨K - 1,by omega⟩
    have ej : (((j + 1 : Nat) : Int) - 1) = j := by omega
    rw [ej]
    have hjn : j < n := hK
    rcases row_cases hrest with ⟨e, _⟩ | ⟨g2,c2,rfl, _⟩
    ·exact absurd e hvn
    obtain ⟨b1,o1,x,rfl,hb1,hx1, _,hc1⟩ := Sl.getInt (Sl.below HX.out hb) hjn
    have hxl := CX.out.1.get hx1
    have HX1 := hid hx1
    have hx0 := hxl.1; have hx1' := hxl.2
    have hlo := (World.ownsRow.lt hown _ rfl).2
    have rl := hid (show rs.length ≤ m by
     rcases Nat.lt_or_ge m rs.length with h | h
     ·have := Can.lt_of_len CY.out.1 hcr.out (by rw [LY.out]; exact h); have := hrV.out; omega
     ·exact h)
    have C3 := hid (show 1 + rs.length ≤ maxLen by unfold maxLen; have := rl.out; omega)
    have C4 := hid (show (1 + rs.length) * 8 ≤ 140737488355328 by have := rl.out; omega)
    have ROW1 := hid (show (wr.alloc (.cells #[.int .i64 x] 3)).ownsRow (w.heap.size + 1) 3 1 (.slice (some ⟨wr.heap.size,0,none⟩) 1 1) 1 [.int .i64 x] from ownsRow_base (row_lit wr [x] (by simp [maxLen])) hlo)
    have ROW1b := hid (own_base (row_lit wr [x] (by simp [maxLen])))
    have HI := hid (show ∀ u ∈ x :: rs,I64 u from (Lims.cons hx0 hx1' hcr.out.1).i64)
    have T := hid (trim_cons hx0 hx1' hcr.out.1)
    have HZ0 := hid (hzz.out j (by omega))
    have R0n := hid (show 0 ≤ x + 1000000000 * val rs by have := val_nonneg hcr.out.1; omega)
    have R0l := hid (show x + 1000000000 * val rs < 1000000000 * val ys by have := hrV.out; omega)
    have EK := hid (div_keep HZ0.out HX1.out hv.out)
    have EP := hid (fun q => div_put (q := q) HZ0.out HX1.out hv.out)
    have hjl : (j : Int) < n := by omega
    have hnb : (j : Int) + 1 ≤ c := by omega
    have hj1 : j ≤ n := by omega
    have rm : (intOf (Value.int .i64 ((j : Int) - 1)) + 1).toNat < (intOf (Value.int .i64 (j : Int)) + 1).toNat := by simp [intOf]
    have HR := hid hrest
    have rz := hid (show ∀ i,i < j → zs[i]? = some 0 from fun i h => hzz.out i (by omega))
    have HO := hid hown
    generalize hR0 : x + 1000000000 * val rs = R0 at *
    clear ej hK h0 hx1 hxl hv hrest hzz hR0 hown hvn
    have L4 := hid (show (dig R0.toNat).length ≤ m + 1 by
     rw [← T.out,trim_take,List.length_take]; have := rl.out; simp only [List.length_cons]; omega)
    have V4 := hid (show val (dig R0.toNat) = R0 by rw [val_dig,Int.toNat_of_nonneg R0n.out])
    go_wp2_with (at_builtin; (refine wpList_append_own _ rfl _ _ 28 rfl (w.heap.size + 1) 3 i0 (.int .i64 0) 1 8 Tryz.underlying28 hi hz0 hz1 hz2 rfl (by decide) _ 1 [.int .i64 x] rfl ROW1.out ⟨g2,0,none⟩ rs.length c2 (rs.map (.int .i64)) rfl (by simp) ((HR.out.alloc _).cells rfl) (one_ints rs) C3.out C4.out (le_alloc hlo _) ?_); intro v' w3 hown' hgrow' hnil')
    have hb3 : Below wr.heap.size wr w3 := ((Below.refl _ wr).alloc (Nat.le_refl _) _).grown hgrow' (le_alloc (Nat.le_refl _) _) ROW1b.out
    have R3 : w3.ownsRow (w.heap.size + 1) 3 1 v' (x :: rs).length ((x :: rs).map (.int .i64)) := by have h := hown'; rw [Nat.add_comm 1 rs.length] at h; exact h
    rcases row_cases R3 with ⟨e, _⟩ | ⟨g3,c3,rfl, _⟩
    ·have := (hnil'.1 e).1; cases this
    have hO3 := ownsRow_below HO.out hb3
    have hbb3 := Below.next hb hb3
    clear hown' hgrow' hnil' hb3
    go_wp2_with fail
    refine (spec_trim_row _ _ _ _ (x :: rs) _ R3 HI.out).mono ?_
    rintro _ w4 ⟨rfl,hb4,R4⟩
    rw [T.out] at R4 ⊢
    have hO4 := ownsRow_below hO3 hb4
    have hbb4 := Below.next hbb3 hb4
    clear R3 hO3 hbb3 hb4 hb
    obtain ⟨s4,hs4⟩ := row_sl R4 (dig_can _).1.i64
    have S4 := hid hs4
    clear hs4
    rcases Int.lt_or_le R0 (val ys) with hlt | hge
    ·have SG := hid (sgn_lt hlt)
     go_wp2_with fail
     have C := spec_l02Cmp _ B _ m c3 d _ ys s4 ds w4 S4.out (Sl.below HY.out hbb4) (dig_can _) CY.out
     rw [V4.out,SG.out] at C
     refine C.mono ?_
     clear C
     rintro _ w5 ⟨rfl,hb5⟩
     have hbb5 := Below.next hbb4 hb5
     have hO5 := ownsRow_below hO4 hb5
     have R5 := ownsRow_below R4 hb5
     have rE := hid (show val (zs.drop j) * val ys + val (dig R0.toNat) = val (xs.drop j) by rw [V4.out]; exact EK.out)
     have rV := hid (show val (dig R0.toNat) < val ys by rw [V4.out]; exact hlt)
     clear hbb4 hO4 R4 hlt
     go_wp2_with fail
     first
     | exact ⟨⟨j,zs, _,hj1,rfl,hO5,R5,(fun h => by cases h),hlz,rz,dig_can _,rV,rE,hbb5⟩,rm⟩
     | exact ⟨by (repeat apply Exists.intro); exact ⟨⟨j,zs, _,hj1,rfl,hO5,R5,(fun h => by cases h),hlz,rz,dig_can _,rV,rE,hbb5⟩,rfl⟩,rm⟩
    ·have SG := hid (sgn_nonneg hge)
     have HGE := hid hge
     clear hge
     have q0 := hid (Int.ediv_nonneg R0n.out (Int.le_of_lt PY.out))
     have q1 := hid (show R0 / val ys < 1000000000 from Int.ediv_lt_of_lt_mul PY.out R0l.out)
     have q2 := hid (show R0 / val ys ≤ 9223372036854775807 by have := q1.out; omega)
     have EV := hid (show val ys * val (dig (R0 / val ys).toNat) = R0 / val ys * val ys by rw [val_dig,Int.toNat_of_nonneg q0.out,Int.mul_comm])
     have EV2 := hid (show val (dig (val ys * val (dig (R0 / val ys).toNat)).toNat) = R0 / val ys * val ys by
      rw [val_dig,EV.out,Int.toNat_of_nonneg (Int.mul_nonneg q0.out (Int.le_of_lt PY.out))])
     have ER := hid (show R0 - R0 / val ys * val ys = R0 % val ys by rw [Int.emod_def,Int.mul_comm])
     have RM0 := hid (Int.emod_nonneg R0 (Int.ne_of_gt PY.out))
     have RM1 := hid (Int.emod_lt_of_pos R0 PY.out)
     have hdl := hid (show (dig (R0 / val ys).toNat).length ≤ 65536 from Nat.le_trans (dig_len (k := 1) (by rw [pw_vals.1]; have := q0.out; have := q1.out; omega)) (by decide))
     have HJ := hid (show j < zs.length by have := (List.getElem?_eq_some_iff.1 HZ0.out).1; exact this)
     go_wp2_with fail
     have C := spec_l02Cmp _ B _ m c3 d _ ys s4 ds w4 S4.out (Sl.below HY.out hbb4) (dig_can _) CY.out
     rw [V4.out] at C
     refine C.mono ?_
     clear C
     rintro _ w5 ⟨rfl,hb5⟩
     have SG' := SG.out
     generalize sgn (R0 - val ys) = sg at *
     have hbb5 := Below.next hbb4 hb5
     have hO5 := ownsRow_below hO4 hb5
     have R5 := ownsRow_below R4 hb5
     have S5 := hid (Sl.below S4.out hb5)
     clear hbb4 hO4 R4 S4
     go_wp2_with fail
     have C := spec_l02Digit _ B _ m c3 d _ ys s4 ds w5 S5.out (Sl.below HY.out hbb5) (dig_can _) CY.out hm PY.out (by rw [V4.out]; exact R0l.out)
     rw [V4.out] at C
     refine C.mono ?_
     clear C
     rintro _ w6 ⟨rfl,hb6⟩
     have hbb6 := Below.next hbb5 hb6
     have hO6 := ownsRow_below hO5 hb6
     have R6 := ownsRow_below R5 hb6
     clear hbb5 hO5 R5 S5
     obtain ⟨hglu,hcu,hfu⟩ := row_cell hO6 HZ0.out
     have hbb7 := hbb6.setCell (p := ⟨w.heap.size,j,none⟩) (Nat.le_refl _) (.int .i64 (R0 / val ys))
     have R7 := ownsRow_above R6 ((Above.refl (w.heap.size + 1) w6).set (p := ⟨w.heap.size,j,none⟩) (Nat.lt_succ_self _) (.int .i64 (R0 / val ys)))
     have hO7 := row_set hO6 j (R0 / val ys)
     clear hbb6 hO6 R6
     go_wp2_with fail
     generalize w6.setCell ⟨w.heap.size,j,none⟩ (.int .i64 (R0 / val ys)) = w7 at *
     clear hcu hfu hglu hb6 hb5
     refine (spec_NatOf (R0 / val ys) w7 q2.out).mono ?_
     rintro _ w8 ⟨A8,n8,c8,s8,rfl,hs8,ho8,hb8⟩
     have H8 := hid hs8
     have hn8 := hid (show n8 ≤ 65536 by rw [← hs8.1]; exact hdl.out)
     have hbb8 := Below.next hbb7 hb8
     have hO8 := ownsRow_below hO7 hb8
     have R8 := ownsRow_below R7 hb8
     clear hs8 ho8 hbb7 hO7 R7
     go_wp2_with fail
     refine (spec_l02Mul B A8 m n8 d c8 ys _ _ _ w8 (Sl.below HY.out hbb8) H8.out CY.out.1 (dig_can _).1 (Nat.le_trans hm (by decide)) (Nat.le_trans hn8.out (by decide))).mono ?_
     rintro _ w9 ⟨v9,rfl,hown9,hb9⟩
     obtain ⟨A9,c9,rfl⟩ := row_any hown9
     obtain ⟨s9,hs9⟩ := row_sl hown9 (dig_can _).1.i64
     have H9 := hid hs9
     have hbb9 := Below.next hbb8 hb9
     have hO9 := ownsRow_below hO8 hb9
     have R9 := ownsRow_below R8 hb9
     clear hs9 hown9 H8 hbb8 hO8 R8
     obtain ⟨t9,ht9⟩ := row_sl R9 (dig_can _).1.i64
     have T9 := hid ht9
     clear ht9
     go_wp2_with fail
     have C := spec_l02Sub_s _ A9 _ _ c3 c9 (dig R0.toNat) _ t9 s9 w9 T9.out H9.out (dig_can _) (dig_can _) (Nat.le_trans L4.out (by omega)) (by rw [EV2.out,V4.out]; exact Int.ediv_mul_le R0 (Int.ne_of_gt PY.out))
     rw [EV2.out,V4.out,ER.out] at C
     refine C.mono ?_
     clear C
     rintro _ wx ⟨gx,cx,rfl,hownx,hbx⟩
     have hbbx := Below.next hbb9 hbx
     have hOx := ownsRow_below hO9 hbx
     have hownx' := ownsRow_base hownx (show w.heap.size + 1 ≤ w9.heap.size from Nat.lt_of_lt_of_le (World.ownsRow.lt hO9 _ rfl).2 (Nat.le_refl _))
     have VM := hid (show val (dig (R0 % val ys).toNat) = R0 % val ys by rw [val_dig,Int.toNat_of_nonneg RM0.out])
     have rE := hid (show val ((zs.set j (R0 / val ys)).drop j) * val ys + val (dig (R0 % val ys).toNat) = val (xs.drop j) by
      rw [VM.out, ← ER.out]; exact EP.out _)
     have rV := hid (show val (dig (R0 % val ys).toNat) < val ys by rw [VM.out]; exact RM1.out)
     have rL := hid (hlz.out.set j q0.out q1.out)
     have rZ := hid (show ∀ i,i < j → (zs.set j (R0 / val ys))[i]? = some 0 from fun i h => by
      rw [List.getElem?_set_ne (by omega)]; exact rz.out i h)
     clear hbb9 hO9 R9 hownx hbx hb9 hb8
     go_wp2_with fail
     first
     | exact ⟨⟨j, _, _,hj1,rfl,hOx,hownx',(fun h => by cases h),rL,rZ,dig_can _,rV,rE,hbbx⟩,rm⟩
     | exact ⟨by (repeat apply Exists.intro); exact ⟨⟨j, _, _,hj1,rfl,hOx,hownx',(fun h => by cases h),rL,rZ,dig_can _,rV,rE,hbbx⟩,rfl⟩,rm⟩
end Go.Proofs.YtpfipnankjeokaaGreat.X
