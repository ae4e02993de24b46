/- Part of a claim's proof: texts of this repository's wip,joined by prune.py,without the theorems that the claim does not reach. -/
import Derived.Test.YtpfipnankjeokaaGreatRows
import Derived.Test.YtpfipnankjeokaaGreatY3
import Derived.Test.YtpfipnankjeokaaGreatY1
import Derived.Test.YtpfipnankjeokaaGreatY2
import Derived.WalkLawsBesides
import Derived.ProofKit
import Derived.Lib.SliceRun
set_option linter.constructorNameAsVariable false
namespace Go.Proofs.YtpfipnankjeokaaGreat.X
open Go.RowKit Go.XB Go.XN
attribute [local go_sem] fillBy opAt deps depOf Region.wanted yielded
attribute [local simp] deps depOf MP.eq Facts

theorem infoI : (Tryz.prog.info? 3).map (fun i => (i.zero,i.size,i.bytes)) = some (some (.int .i64 0),1,8) := by kernel_rfl

set_option maxHeartbeats 400000 in
theorem cmp_Compare (x y : Int) (w : World) : Calls Tryz.prog 130 #[.int .i64 x, .int .i64 y] w (Gives w (.int .i64 (sgn (x - y)))) := by
 rcases Int.lt_trichotomy x y with h | h | h
 ·have e := hid (show sgn (x - y) = -1 by unfold sgn; rw [if_pos (by omega)])
  go_enter Tryz.func130,Tryz.ntmps130
  go_wp2
  go_ret
  exact ⟨ret_int e.out.symm,Below.go⟩
 ·have e := hid (show sgn (x - y) = 0 by unfold sgn; rw [if_neg (by omega),if_neg (by omega)])
  subst h
  go_enter Tryz.func130,Tryz.ntmps130
  go_wp2
  go_ret
  exact ⟨ret_int e.out.symm,Below.go⟩
 ·have e := hid (show sgn (x - y) = 1 by unfold sgn; rw [if_neg (by omega),if_pos (by omega)])
  have h' : ¬ x < y := by omega
  go_enter Tryz.func130,Tryz.ntmps130
  go_wp2
  go_ret
  exact ⟨ret_int e.out.symm,Below.go⟩

def slLen : Value → Nat | .slice _ n _ => n | _ => 0

set_option maxHeartbeats 400000 in
theorem impl_trimmed (A : Option Addr) (n c : Nat) (xs : List Int) (bs : List Nat) (w : World) (hx : Sl w A n c xs bs) :
  Calls Tryz.prog 105 #[.slice A n c] w (Gives w (.slice A (trim xs).length c)) := by
 have hnc : n ≤ c := hx.2.1
 have hcm : c ≤ maxLen := hx.2.2.1
 unfold maxLen at hcm
 have HL := hid hx.1
 have HX := hid hx
 clear hx
 go_enter Tryz.func105,Tryz.ntmps105
 go_wp2
 go_loopw [0] (fun s wr => ∃ k : Nat,k ≤ n ∧ s = .slice A k c ∧ Hid (trim (xs.take k) = trim xs) ∧ Below w.heap.size w wr) (fun s wr => slLen s)
 case atStart => exact ⟨n,Nat.le_refl _,rfl,by rw [List.take_of_length_le (Nat.le_of_eq HL.out)]; rfl,Below.refl _ _⟩
 case round =>
  obtain ⟨k,hk,rfl,ht,hb⟩ := hrel
  rcases Nat.eq_zero_or_pos k with h0 | h0
  ·subst h0
   go_wp2
   go_ret
   refine ⟨?_,hb⟩
   rw [← ht.out]; rfl
  ·obtain ⟨j,rfl⟩ : ∃ j,k = j + 1 := ⟨k - 1,by omega⟩
   obtain ⟨b,off,x,rfl,hbl,hxk, _,hcx⟩ := Sl.getInt (Sl.below HX.out hb) (show j < n by omega)
   have HXk := hid hxk
   clear hxk
   have hj1 : (j : Int) + 1 ≤ c := by omega
   by_cases hz : x = 0
   ·have hzb : (x == 0) = true := by simp [hz]
    have r3 := hid (show trim (xs.take j) = trim xs by rw [← ht.out,take_step HXk.out,hz,trim_snoc_zero])
    clear hz
    have hjc : j ≤ c := by omega
    have rm : slLen (.slice (some ⟨b,off,none⟩) j c) < slLen (.slice (some ⟨b,off,none⟩) (j + 1) c) := Nat.lt_succ_self j
    have rj : j ≤ n := by omega
    go_wp2
    first
    | exact ⟨⟨j,rj,rfl,r3,hb⟩,rm⟩
    | exact ⟨by (repeat apply Exists.intro); exact ⟨⟨j,rj,rfl,r3,hb⟩,rfl⟩,rm⟩
   ·have hzb : (x == 0) = false := by simp [hz]
    have r3 := hid (show trim xs = xs.take (j + 1) by rw [← ht.out,take_step HXk.out,trim_snoc hz])
    clear hz
    go_wp2
    go_ret
    refine ⟨?_,hb⟩
    have hlen : (trim xs).length = j + 1 := by rw [r3.out,List.length_take]; have := HL.out; omega
    rw [hlen]; rfl

theorem _root_.Go.XN.Lims.i64 {l : List Int} (h : Lims l) : ∀ x ∈ l,I64 x := fun x hx => by have := h x hx; unfold I64; omega
theorem int_split (q : Int) (h : 0 ≤ q) : ((q.toNat % 1000000000 : Nat) : Int) = q % 1000000000 ∧ q.toNat / 1000000000 = (q / 1000000000).toNat := by omega

set_option maxHeartbeats 1000000 in
theorem natOf_row (N : Int) (w : World) (h0 : 0 ≤ N) (h1 : N ≤ 18446744073709551615) : Calls Tryz.prog 102 #[.int .u64 N] w (GivesRow w 3 (dig N.toNat)) := by
 have hlen : (dig N.toNat).length ≤ 3 := dig_len (by rw [pw_vals.2.2]; omega)
 obtain ⟨i0,hi,hz0,hz1,hz2⟩ := info_parts infoI
 have HLen := hid hlen
 clear hlen
 go_enter Tryz.func102,Tryz.ntmps102
 go_wp2
 go_loopw [0,3] (fun m v wr => ∃ (q : Int) (out : List Int),m = .int .u64 q ∧ wr.ownsRow w.heap.size 3 1 v out.length (out.map (.int .i64)) ∧ Hid (dig N.toNat = out ++ dig q.toNat) ∧ 0 ≤ q ∧ q ≤ 18446744073709551615 ∧ Below w.heap.size w wr) (fun m v wr => (intOf m).toNat)
 case atStart => exact ⟨N, [],rfl,World.ownsRow_made w #[] 0 (Nat.le_refl _) (Nat.zero_le _) rfl,rfl,h0,h1,Below.go⟩
 case round =>
  obtain ⟨q,out,rfl,hown,hd,hq0,hq1,hb⟩ := hrel
  have hol : out.length ≤ 3 := by have := HLen.out; rw [hd.out,List.length_append] at this; omega
  by_cases hp : 0 < q
  ·have C3 := hid (show out.length + 1 ≤ maxLen by unfold maxLen; omega)
   have C4 := hid (show (out.length + 1) * 8 ≤ 140737488355328 by omega)
   have C5 := hid hb.size
   have r3 := hid (show dig N.toNat = (out ++ [q % 1000000000]) ++ dig (q / 1000000000).toNat by rw [hd.out,dig_step (by omega),(int_split q hq0).1,(int_split q hq0).2]; simp)
   have r4 := hid (show 0 ≤ q / 1000000000 by omega)
   have r5 := hid (show q / 1000000000 ≤ 18446744073709551615 by omega)
   have rm := hid (show (intOf (.int .u64 (q / 1000000000))).toNat < (intOf (.int .u64 q)).toNat by simp [intOf]; omega)
   clear h0 h1 hol
   go_wp2_with (first | (at_builtin; refine wpList_append_own _ rfl _ _ 28 rfl w.heap.size 3 i0 (.int .i64 0) 1 8 Tryz.underlying28 hi hz0 hz1 hz2 rfl (by decide) _ _ _ rfl (hown.alloc _) ⟨wr.heap.size,0,none⟩ 1 1 [.int .i64 (q % 1000000000)] rfl rfl (cell_one_new _ _ _) (fun x hx => by simp at hx; subst hx; rfl) C3.out C4.out (le_alloc C5.out _) ?_; intro v' w3 hown' hgrow' hnil'))
   have hb' := below_push hb hown hgrow'
   first
   | exact ⟨⟨q / 1000000000,out ++ [q % 1000000000],rfl,own_push hown',r3.out,r4.out,r5.out,hb'⟩,rm.out⟩
   | exact ⟨by (repeat apply Exists.intro); exact ⟨⟨q / 1000000000,out ++ [q % 1000000000],rfl,own_push hown',r3.out,r4.out,r5.out,hb'⟩,rfl⟩,rm.out⟩
  ·have hz : q = 0 := by omega
   subst hz
   go_wp2
   go_ret
   have e := hd.out
   rw [show dig (Int.toNat 0) = [] from rfl,List.append_nil] at e
   rw [e]
   exact ⟨_,rfl,hown,hb⟩

theorem impl_natOf (N : Int) (w : World) (h0 : 0 ≤ N) (h1 : N ≤ 18446744073709551615) : Calls Tryz.prog 102 #[.int .u64 N] w (GivesSl w (dig N.toNat)) :=
 (natOf_row N w h0 h1).mono fun _ _ ⟨_,he,ho,hb⟩ => by subst he; exact gives_row ho rfl (dig_can _).1.i64 hb

theorem sgn_lt {a b : Int} (h : a < b) : sgn (a - b) = -1 := by unfold sgn; rw [if_pos (by omega)]
theorem sgn_gt {a b : Int} (h : b < a) : sgn (a - b) = 1 := by unfold sgn; rw [if_neg (by omega),if_pos (by omega)]

set_option maxHeartbeats 1000000 in
theorem impl_natCmp (A B : Option Addr) (n m c d : Nat) (xs ys : List Int) (bs ds : List Nat) (w : World) (hx : Sl w A n c xs bs) (hy : Sl w B m d ys ds) (hcx : XN.Can xs) (hcy : XN.Can ys) :
  Calls Tryz.prog 137 #[.slice A n c, .slice B m d] w (Gives w (.int .i64 (sgn (val xs - val ys)))) := by
 have hlx := hid hx.1
 have hly := hid hy.1
 have hcm : c ≤ maxLen := hx.2.2.1
 have hnc : n ≤ c := hx.2.1
 unfold maxLen at hcm
 have HX := hid hx
 have HY := hid hy
 have CX := hid hcx
 have CY := hid hcy
 clear hx hy hcx hcy
 go_enter Tryz.func137,Tryz.ntmps137
 by_cases hnm : n = m
 ·subst hnm
  go_wp2
  go_loopw [4,5] (fun r s wr => ∃ i : Int, -1 ≤ i ∧ i < n ∧ s = .int .i64 i ∧ Hid (xs.drop (i + 1).toNat = ys.drop (i + 1).toNat) ∧ Below w.heap.size w wr) (fun r s wr => (intOf s + 1).toNat)
  case atStart =>
   refine ⟨(n : Int) - 1,by omega,by omega,rfl, ?_,Below.refl _ _⟩
   have e : ((n : Int) - 1 + 1).toNat = n := by omega
   rw [e]
   show xs.drop n = ys.drop n
   rw [List.drop_eq_nil_of_le (Nat.le_of_eq hlx.out),List.drop_eq_nil_of_le (Nat.le_of_eq hly.out)]
  case round =>
   obtain ⟨i,hi1,hi2,rfl,hd,hb⟩ := hrel
   rcases Int.lt_or_le i 0 with h0 | h0
   ·have h1 : i = -1 := by omega
    subst h1
    go_wp2
    go_ret
    have e := hd.out
    rw [show (-1 + 1 : Int).toNat = 0 from rfl,List.drop_zero,List.drop_zero] at e
    refine ⟨ret_int ?_,hb⟩
    rw [e]; unfold sgn; simp
   ·obtain ⟨j,rfl⟩ : ∃ j : Nat,i = j := ⟨i.toNat,by omega⟩
    have hj : j < n := by omega
    obtain ⟨b1,o1,x,rfl,hb1,hx1,hxi,hc1⟩ := Sl.getInt (Sl.below HX.out hb) hj
    obtain ⟨b2,o2,y,rfl,hb2,hy1,hyi,hc2⟩ := Sl.getInt (Sl.below HY.out hb) hj
    have HX1 := hid hx1
    have HY1 := hid hy1
    clear hx1 hy1
    have e1 := hid (show (((j : Int) + 1).toNat = j + 1) by omega)
    have st := hid (val_cmp_step CX.out.1 CY.out.1 HX1.out HY1.out (by have := hd.out; rwa [e1.out] at this) (by rw [hlx.out,hly.out]))
    have hjn : (j : Int) < n := hi2
    have hd' := hd
    clear hd
    by_cases hxy : x = y
    ·have hz := hid (show (x != y) = false by simp [hxy])
     have r := hid (show xs.drop ((j : Int) - 1 + 1).toNat = ys.drop ((j : Int) - 1 + 1).toNat by
      rw [show ((j : Int) - 1 + 1).toNat = j by omega]
      obtain ⟨hk1,ex⟩ := List.getElem?_eq_some_iff.1 HX1.out
      obtain ⟨hk2,ey⟩ := List.getElem?_eq_some_iff.1 HY1.out
      rw [List.drop_eq_getElem_cons hk1,List.drop_eq_getElem_cons hk2,ex,ey,hxy]
      have := hd'.out
      rw [e1.out] at this; rw [this])
     clear hxy hd'
     go_wp2_with fail
     refine wp_region_walk (by kernel_rfl) (by kernel_rfl) (by kernel_rfl) ?_
     iterate 9
      apply walkM_eq
      case h =>
       intro yq zq wq hC hd
       obtain ⟨hcq,hfq⟩ := bcell hC
       simp at hd
       refine ⟨by go_simp; done, ?_⟩
       go_simp
       first | (go_ints; exact rfl) | (go_ints; rw [if_pos (by omega)]; try exact rfl) | exact rfl | (rw [if_pos (by omega)]; try exact rfl)
     intro yq zq wa hC hd hdis0
     have hdis := hid hdis0
     clear hdis0
     simp at hd
     go_simp
     have hz := hz.out
     go_wp2_with fail
     have hb' : Below w.heap.size w wa := Below.go
     have r1 : (-1 : Int) ≤ (j : Int) - 1 := by omega
     have r2 : (j : Int) - 1 < n := by omega
     have rm : (intOf (Value.int IntKind.i64 ((j : Int) - 1)) + 1).toNat < (intOf (Value.int IntKind.i64 (j : Int)) + 1).toNat := by simp [intOf]
     first
     | exact ⟨⟨(j : Int) - 1,r1,r2,rfl,r,hb'⟩,rm⟩
     | exact ⟨by (repeat apply Exists.intro); exact ⟨⟨(j : Int) - 1,r1,r2,rfl,r,hb'⟩,rfl⟩,rm⟩
    ·have hz := hid (show (x != y) = true by simp [hxy])
     have hne := hid hxy
     clear hxy hd'
     go_wp2_with fail
     refine wp_region_walk (by kernel_rfl) (by kernel_rfl) (by kernel_rfl) ?_
     iterate 9
      apply walkM_eq
      case h =>
       intro yq zq wq hC hd
       obtain ⟨hcq,hfq⟩ := bcell hC
       simp at hd
       refine ⟨by go_simp; done, ?_⟩
       go_simp
       first | (go_ints; exact rfl) | (go_ints; rw [if_pos (by omega)]; try exact rfl) | exact rfl | (rw [if_pos (by omega)]; try exact rfl)
     intro yq zq wa hC hd hdis0
     have hdis := hid hdis0
     clear hdis0
     simp at hd
     go_simp
     have hz := hz.out
     have hba := hC
     clear hC hd hdis
     have hc1' := ((bcell hba).1 b1 (o1 + j) hb1).trans hc1
     have hc2' := ((bcell hba).1 b2 (o2 + j) hb2).trans hc2
     have hb1' : b1 < wa.heap.size := by have := hba.size; omega
     have hb2' : b2 < wa.heap.size := by have := hba.size; omega
     clear hc1 hc2 hb1 hb2
     go_wp2_with fail
     refine wp_region_walk (by kernel_rfl) (by kernel_rfl) (by kernel_rfl) ?_
     iterate 8
      apply walkM_eq
      case h =>
       intro yq zq wq hC hd
       obtain ⟨hcq,hfq⟩ := bcell hC
       simp at hd
       refine ⟨by go_simp; done, ?_⟩
       go_simp
       first | (go_ints; exact rfl) | (go_ints; rw [if_pos (by omega)]; try exact rfl) | exact rfl | (rw [if_pos (by omega)]; try exact rfl)
     refine walkM_call (MP.eq (.int .i64 (sgn (x - y)))) ?_ ?_
     ·intro yq zq wq hC hd
      obtain ⟨hcq,hfq⟩ := bcell hC
      simp at hd
      refine ⟨by go_simp; done, ?_⟩
      apply Exists.intro
      apply Exists.intro
      constructor
      ·go_simp
       exact ⟨rfl,rfl⟩
      ·exact gives_eq (cmp_Compare _ _ _)
     apply walkM_eq
     case h =>
      intro yq zq wq hC hd
      obtain ⟨hcq,hfq⟩ := bcell hC
      simp at hd
      refine ⟨by go_simp; done, ?_⟩
      go_simp
      first | (go_ints; exact rfl) | (go_ints; rw [if_pos (by omega)]; try exact rfl) | exact rfl | (rw [if_pos (by omega)]; try exact rfl)
     intro yq zq wb hC hd hdis0
     have hdis := hid hdis0
     clear hdis0
     simp at hd
     go_simp
     go_wp2_with fail
     go_ret
     refine ⟨ret_int ?_,Below.go⟩
     rcases Int.lt_trichotomy x y with h | h | h
     ·rw [sgn_lt h,sgn_lt (st.out.1 h)]
     ·exact absurd h hne.out
     ·rw [sgn_gt h,sgn_gt (st.out.2 h)]
 ·have hz : ((n : Int) != m) = true := by simp; omega
  have e := hid (show sgn ((n : Int) - m) = sgn (val xs - val ys) by
   rcases Nat.lt_or_ge n m with h | h
   ·rw [sgn_lt (by omega),sgn_lt (XN.Can.lt_of_len CX.out.1 CY.out (by rw [hlx.out,hly.out]; exact h))]
   ·rw [sgn_gt (by omega),sgn_gt (XN.Can.lt_of_len CY.out.1 CX.out (by rw [hlx.out,hly.out]; omega))])
  clear hnm
  go_wp2_with fail
  refine (cmp_Compare _ _ _).mono ?_
  rintro _ w1 ⟨rfl,hb⟩
  go_wp2_with fail
  go_ret
  exact ⟨ret_int e.out,hb⟩

set_option maxHeartbeats 1000000 in
theorem clone_row (A : Option Addr) (n c : Nat) (xs : List Int) (bs : List Nat) (w : World) (hx : Sl w A n c xs bs) (hn : n ≤ 1048576) :
  Calls Tryz.prog 109 #[.slice A n c] w (GivesRow w 3 xs) := by
 obtain ⟨i0,hi,hz0,hz1,hz2⟩ := info_parts infoI
 cases A with
 | none =>
  have h0 : n = 0 := by
   rcases Nat.eq_zero_or_pos n with h | h
   ·exact h
   ·obtain ⟨_, _, _,e, _⟩ := hx.2.2.2.2 h; cases e
  have hxs : xs = [] := List.eq_nil_of_length_eq_zero (hx.1.trans h0)
  clear hx hi hz0 hz1 hz2 hn
  subst h0; subst hxs
  have q1 : ∀ (w : World) (a : Option Addr) (n c n' c' : Nat),(binOp .eql 28 (.slice a n c) (.slice none n' c')).run Tryz.prog w = .ok (.bool a.isNone) w := fun w a n c n' c' => Lib.run_eql_slice_nil w _ _ a n c n' c' Tryz.underlying28
  go_enter Tryz.func109,Tryz.ntmps109
  go_wp2
  go_ret
  exact ⟨_,rfl,World.ownsRow_nil _ _ _ _,Below.refl _ _⟩
 | some a =>
  have C3 := hid (show 0 + n ≤ maxLen by unfold maxLen; omega)
  have C4 := hid (show (0 + n) * 8 ≤ 140737488355328 by omega)
  have HX := hid hx
  clear hx hn
  have q1 : ∀ (w : World) (a : Option Addr) (n c n' c' : Nat),(binOp .eql 28 (.slice a n c) (.slice none n' c')).run Tryz.prog w = .ok (.bool a.isNone) w := fun w a n c n' c' => Lib.run_eql_slice_nil w _ _ a n c n' c' Tryz.underlying28
  go_enter Tryz.func109,Tryz.ntmps109
  go_wp2_with (at_builtin; (refine wpList_append_own _ rfl _ _ 28 rfl w.heap.size 3 i0 (.int .i64 0) 1 8 Tryz.underlying28 hi hz0 hz1 hz2 rfl (by decide) _ 0 [] rfl (World.ownsRow_made w #[] 0 (Nat.le_refl _) (Nat.zero_le _) rfl) a n c (xs.map (.int .i64)) rfl (by rw [List.length_map,HX.out.1,Nat.mul_one]) (Sl.cellsInt (Sl.below HX.out Below.go)) (one_ints xs) C3.out C4.out (le_alloc (Nat.le_refl _) _) ?_); intro v' w3 hown' hgrow' hnil')
  have hb : Below w.heap.size w w3 := ((Below.refl _ w).alloc (Nat.le_refl _) _).grown hgrow' (le_alloc (Nat.le_refl _) _) (own_base (World.ownsRow_made (e := 28) (size := 1) w #[] 0 (Nat.le_refl _) (Nat.zero_le _) rfl))
  go_wp2
  go_ret
  have e : 0 + n = n := Nat.zero_add n
  rw [e] at hown'
  rw [← HX.out.1] at hown'
  exact ⟨_,rfl,hown',hb⟩

theorem clone_ints (A : Option Addr) (n c : Nat) (xs : List Int) (bs : List Nat) (w : World) (hx : Sl w A n c xs bs) (hn : n ≤ 1048576) :
  Calls Tryz.prog 109 #[.slice A n c] w (GivesSl w xs) :=
 (clone_row A n c xs bs w hx hn).mono fun _ _ ⟨_,he,ho,hb⟩ => by subst he; exact gives_row ho rfl (Sl.i64 hx) hb

set_option maxHeartbeats 2000000 in
theorem impl_natAdd (A B : Option Addr) (n m c d : Nat) (xs ys : List Int) (bs ds : List Nat) (w : World) (hx : Sl w A n c xs bs) (hy : Sl w B m d ys ds) (hcx : XN.Can xs) (hcy : XN.Can ys) (hn : n ≤ 1048576) (hm : m ≤ 1048576) :
  Calls Tryz.prog 175 #[.slice A n c, .slice B m d] w (GivesSl w (dig (val xs + val ys).toNat)) := by
 obtain ⟨i0,hi,hz0,hz1,hz2⟩ := info_parts infoI
 have hlx := hid hx.1
 have hly := hid hy.1
 have HX := hid hx
 have HY := hid hy
 have CX := hid hcx
 have CY := hid hcy
 clear hx hy hcx hcy
 go_enter Tryz.func175,Tryz.ntmps175
 rcases Nat.lt_or_ge n m with hnm | hnm
 ·have b2 := hid (show i0.bytes * (m + 1) ≤ 281474976710656 by rw [hz2]; omega)
  have b3 := hid (show m + 1 ≤ maxLen by unfold maxLen; omega)
  have hnn := hid (show m ≤ 1048576 by omega)
  skip
  have hV := hid (val_nonneg CX.out.1)
  go_wp2_with (at_make; (refine wpList_make_own _ rfl _ _ 28 rfl w.heap.size 3 i0 (.int .i64 0) 1 Tryz.underlying28 hi hz0 hz1 .i64 .i64 _ (m + 1) rfl rfl rfl b2.out b3.out (Nat.le_refl _) ?_); intro w1 hown1 hgrow1)
  have hb1 := (Below.refl w.heap.size w).grown hgrow1 (Nat.le_refl _) (by intro k hk; cases hk)
  clear hgrow1
  go_loopw [5,6,22] (fun v y i wr => ∃ (k : Nat) (cy : Int) (out : List Int),k ≤ m ∧ 0 ≤ cy ∧ cy ≤ 1 ∧ i = .int .i64 k ∧ y = .int .i64 cy ∧ wr.ownsRow w.heap.size 3 1 v out.length (out.map (.int .i64)) ∧ Hid (out.length = k) ∧ Hid (Lims out) ∧ Hid (val out + pw k * cy = val (ys.take k) + val (xs.take k)) ∧ Below w.heap.size w wr) (fun v y i wr => m - (intOf i).toNat)
  case atStart => exact ⟨0,0, [],Nat.zero_le _,by omega,by omega,rfl,rfl,hown1,rfl,Lims.nil,by simp [Hid,val,pw_zero],hb1⟩
  case round =>
   obtain ⟨k,cy,out,hk,hcy0,hcy1,rfl,rfl,hown,hol,hlo,hv,hb⟩ := hrel
   rcases Nat.lt_or_ge k m with hkn | hkn
   ·have hki : (k : Int) < m := by omega
    obtain ⟨b1,o1,x,hA1,hbl1,hx1,hxi,hc1⟩ := Sl.getInt (Sl.below HY.out hb) hkn
    have hxl := CY.out.1.get hx1
    subst hA1
    have HX1 := hid hx1
    have hx0' := hxl.1; have hx1' := hxl.2
    clear hx1 hxl hxi
    have hol' : out.length ≤ 1048576 := by rw [hol.out]; have := hnn.out; omega
    have C3 := hid (show out.length + 1 ≤ maxLen by unfold maxLen; omega)
    have C4 := hid (show (out.length + 1) * 8 ≤ 140737488355328 by omega)
    have C5 := hid hb.size
    have hkb : (k : Int) ≤ 1048576 := by have := hnn.out; omega
    have hk1 : k + 1 ≤ m := hkn
    have hlen1 := hid (show ∀ x : Int,(out ++ [x]).length = k + 1 by intro x; rw [List.length_append,hol.out]; rfl)
    rcases Nat.lt_or_ge k n with hkm | hkm
    ·obtain ⟨b2,o2,y,hA2,hbl2,hy1,hyi,hc2⟩ := Sl.getInt (Sl.below HX.out hb) hkm
     have hyl := CX.out.1.get hy1
     subst hA2
     have HY1 := hid hy1
     have hy0' := hyl.1; have hy1' := hyl.2
     clear hy1 hyl hyi
     have hki2 : (k : Int) < n := by omega
     have e0 : 0 ≤ (x + cy + y) / 1000000000 := by omega
     have e1 : (x + cy + y) / 1000000000 ≤ 1 := by omega
     have E0 := hid e0; have E1 := hid e1
     have L := hid (show Lims (out ++ [(x + cy + y) % 1000000000]) from hlo.out.snoc (by omega) (by omega))
     have r := hid (show val (out ++ [(x + cy + y) % 1000000000]) + pw (k + 1) * ((x + cy + y) / 1000000000) = val (ys.take (k + 1)) + val (xs.take (k + 1)) by
      rw [carry_out hol.out,val_take_step HX1.out,val_take_step HY1.out]
      have := hv.out
      grind)
     clear e0 e1 hol' hn hm
     go_wp2_with (first | (at_builtin; refine wpList_append_own _ rfl _ _ 28 rfl w.heap.size 3 i0 (.int .i64 0) 1 8 Tryz.underlying28 hi hz0 hz1 hz2 rfl (by decide) _ _ _ rfl (hown.alloc _) ⟨wr.heap.size,0,none⟩ 1 1 [.int .i64 ((x + cy + y) % 1000000000)] rfl rfl (cell_one_new _ _ _) (fun x hx => by simp at hx; subst hx; rfl) C3.out C4.out (le_alloc C5.out _) ?_; intro v' w3 hown' hgrow' hnil'))
     have hb' := below_push hb hown hgrow'
     first
     | exact ⟨⟨k + 1,(x + cy + y) / 1000000000,out ++ [(x + cy + y) % 1000000000],hk1,E0.out,E1.out,rfl,rfl,own_push hown',hlen1.out _,L.out,r.out,hb'⟩,meas_succ hkn⟩
     | exact ⟨by (repeat apply Exists.intro); exact ⟨⟨k + 1,(x + cy + y) / 1000000000,out ++ [(x + cy + y) % 1000000000],hk1,E0.out,E1.out,rfl,rfl,own_push hown',hlen1.out _,L.out,r.out,hb'⟩,rfl⟩,meas_succ hkn⟩
    ·have hki2 : ¬ ((k : Int) < n) := by omega
     have E0 := hid (show 0 ≤ (x + cy) / 1000000000 by omega); have E1 := hid (show (x + cy) / 1000000000 ≤ 1 by omega)
     have L := hid (show Lims (out ++ [(x + cy) % 1000000000]) from hlo.out.snoc (by omega) (by omega))
     have r := hid (show val (out ++ [(x + cy) % 1000000000]) + pw (k + 1) * ((x + cy) / 1000000000) = val (ys.take (k + 1)) + val (xs.take (k + 1)) by
      have hyl : xs.length ≤ k := by rw [hlx.out]; exact hkm
      have := hv.out
      rw [List.take_of_length_le hyl] at this
      rw [carry_out hol.out,val_take_step HX1.out,List.take_of_length_le (show xs.length ≤ k + 1 by omega)]
      grind)
     clear hkm hol' hn hm
     go_wp2_with (first | (at_builtin; refine wpList_append_own _ rfl _ _ 28 rfl w.heap.size 3 i0 (.int .i64 0) 1 8 Tryz.underlying28 hi hz0 hz1 hz2 rfl (by decide) _ _ _ rfl (hown.alloc _) ⟨wr.heap.size,0,none⟩ 1 1 [.int .i64 ((x + cy) % 1000000000)] rfl rfl (cell_one_new _ _ _) (fun x hx => by simp at hx; subst hx; rfl) C3.out C4.out (le_alloc C5.out _) ?_; intro v' w3 hown' hgrow' hnil'))
     have hb' := below_push hb hown hgrow'
     first
     | exact ⟨⟨k + 1,(x + cy) / 1000000000,out ++ [(x + cy) % 1000000000],hk1,E0.out,E1.out,rfl,rfl,own_push hown',hlen1.out _,L.out,r.out,hb'⟩,meas_succ hkn⟩
     | exact ⟨by (repeat apply Exists.intro); exact ⟨⟨k + 1,(x + cy) / 1000000000,out ++ [(x + cy) % 1000000000],hk1,E0.out,E1.out,rfl,rfl,own_push hown',hlen1.out _,L.out,r.out,hb'⟩,rfl⟩,meas_succ hkn⟩
   ·have hke : k = m := by omega
    subst hke
    have fin := hid (show (if 0 < cy then out ++ [cy] else out) = dig (val xs + val ys).toNat by
     have hyl : xs.length ≤ k := by rw [hlx.out]; omega
     have := hv.out
     rw [List.take_of_length_le hyl,List.take_of_length_le (Nat.le_of_eq hly.out)] at this
     have := add_end CY.out hlo.out (by rw [hol.out,hly.out]) (by rw [hly.out]; exact this) hV.out hcy0 (by omega)
     rw [this]; rw [Int.add_comm])
    have hki2 : ¬ ((k : Int) < k) := by omega
    have hol' : out.length ≤ 1048576 := by rw [hol.out]; exact hnn.out
    have C3 := hid (show out.length + 1 ≤ maxLen by unfold maxLen; omega)
    have C4 := hid (show (out.length + 1) * 8 ≤ 140737488355328 by omega)
    have C5 := hid hb.size
    clear hol' hn hm
    rcases Int.lt_or_le 0 cy with hc | hc
    ·rw [if_pos hc] at fin
     go_wp2_with (first | (at_builtin; refine wpList_append_own _ rfl _ _ 28 rfl w.heap.size 3 i0 (.int .i64 0) 1 8 Tryz.underlying28 hi hz0 hz1 hz2 rfl (by decide) _ _ _ rfl (hown.alloc _) ⟨wr.heap.size,0,none⟩ 1 1 [.int .i64 (cy)] rfl rfl (cell_one_new _ _ _) (fun x hx => by simp at hx; subst hx; rfl) C3.out C4.out (le_alloc C5.out _) ?_; intro v' w3 hown' hgrow' hnil'))
     have hb' := below_push hb hown hgrow'
     go_wp2
     go_ret
     rw [← fin.out]
     refine gives_row (own_push hown') rfl ?_ hb'
     rw [fin.out]; exact (dig_can _).1.i64
    ·have hc0 : cy = 0 := by omega
     subst hc0
     rw [if_neg (by omega)] at fin
     go_wp2
     go_ret
     rw [← fin.out]
     refine gives_row hown rfl ?_ hb
     rw [fin.out]; exact (dig_can _).1.i64
 ·have b2 := hid (show i0.bytes * (n + 1) ≤ 281474976710656 by rw [hz2]; omega)
  have b3 := hid (show n + 1 ≤ maxLen by unfold maxLen; omega)
  have hnn := hid (show n ≤ 1048576 by omega)
  have hnm' : ¬ ((n : Int) < m) := by omega
  have hV := hid (val_nonneg CY.out.1)
  go_wp2_with (at_make; (refine wpList_make_own _ rfl _ _ 28 rfl w.heap.size 3 i0 (.int .i64 0) 1 Tryz.underlying28 hi hz0 hz1 .i64 .i64 _ (n + 1) rfl rfl rfl b2.out b3.out (Nat.le_refl _) ?_); intro w1 hown1 hgrow1)
  have hb1 := (Below.refl w.heap.size w).grown hgrow1 (Nat.le_refl _) (by intro k hk; cases hk)
  clear hgrow1
  go_loopw [5,6,22] (fun v y i wr => ∃ (k : Nat) (cy : Int) (out : List Int),k ≤ n ∧ 0 ≤ cy ∧ cy ≤ 1 ∧ i = .int .i64 k ∧ y = .int .i64 cy ∧ wr.ownsRow w.heap.size 3 1 v out.length (out.map (.int .i64)) ∧ Hid (out.length = k) ∧ Hid (Lims out) ∧ Hid (val out + pw k * cy = val (xs.take k) + val (ys.take k)) ∧ Below w.heap.size w wr) (fun v y i wr => n - (intOf i).toNat)
  case atStart => exact ⟨0,0, [],Nat.zero_le _,by omega,by omega,rfl,rfl,hown1,rfl,Lims.nil,by simp [Hid,val,pw_zero],hb1⟩
  case round =>
   obtain ⟨k,cy,out,hk,hcy0,hcy1,rfl,rfl,hown,hol,hlo,hv,hb⟩ := hrel
   rcases Nat.lt_or_ge k n with hkn | hkn
   ·have hki : (k : Int) < n := by omega
    obtain ⟨b1,o1,x,hA1,hbl1,hx1,hxi,hc1⟩ := Sl.getInt (Sl.below HX.out hb) hkn
    have hxl := CX.out.1.get hx1
    subst hA1
    have HX1 := hid hx1
    have hx0' := hxl.1; have hx1' := hxl.2
    clear hx1 hxl hxi
    have hol' : out.length ≤ 1048576 := by rw [hol.out]; have := hnn.out; omega
    have C3 := hid (show out.length + 1 ≤ maxLen by unfold maxLen; omega)
    have C4 := hid (show (out.length + 1) * 8 ≤ 140737488355328 by omega)
    have C5 := hid hb.size
    have hkb : (k : Int) ≤ 1048576 := by have := hnn.out; omega
    have hk1 : k + 1 ≤ n := hkn
    have hlen1 := hid (show ∀ x : Int,(out ++ [x]).length = k + 1 by intro x; rw [List.length_append,hol.out]; rfl)
    rcases Nat.lt_or_ge k m with hkm | hkm
    ·obtain ⟨b2,o2,y,hA2,hbl2,hy1,hyi,hc2⟩ := Sl.getInt (Sl.below HY.out hb) hkm
     have hyl := CY.out.1.get hy1
     subst hA2
     have HY1 := hid hy1
     have hy0' := hyl.1; have hy1' := hyl.2
     clear hy1 hyl hyi
     have hki2 : (k : Int) < m := by omega
     have e0 : 0 ≤ (x + cy + y) / 1000000000 := by omega
     have e1 : (x + cy + y) / 1000000000 ≤ 1 := by omega
     have E0 := hid e0; have E1 := hid e1
     have L := hid (show Lims (out ++ [(x + cy + y) % 1000000000]) from hlo.out.snoc (by omega) (by omega))
     have r := hid (show val (out ++ [(x + cy + y) % 1000000000]) + pw (k + 1) * ((x + cy + y) / 1000000000) = val (xs.take (k + 1)) + val (ys.take (k + 1)) by
      rw [carry_out hol.out,val_take_step HX1.out,val_take_step HY1.out]
      have := hv.out
      grind)
     clear e0 e1 hol' hn hm
     go_wp2_with (first | (at_builtin; refine wpList_append_own _ rfl _ _ 28 rfl w.heap.size 3 i0 (.int .i64 0) 1 8 Tryz.underlying28 hi hz0 hz1 hz2 rfl (by decide) _ _ _ rfl (hown.alloc _) ⟨wr.heap.size,0,none⟩ 1 1 [.int .i64 ((x + cy + y) % 1000000000)] rfl rfl (cell_one_new _ _ _) (fun x hx => by simp at hx; subst hx; rfl) C3.out C4.out (le_alloc C5.out _) ?_; intro v' w3 hown' hgrow' hnil'))
     have hb' := below_push hb hown hgrow'
     first
     | exact ⟨⟨k + 1,(x + cy + y) / 1000000000,out ++ [(x + cy + y) % 1000000000],hk1,E0.out,E1.out,rfl,rfl,own_push hown',hlen1.out _,L.out,r.out,hb'⟩,meas_succ hkn⟩
     | exact ⟨by (repeat apply Exists.intro); exact ⟨⟨k + 1,(x + cy + y) / 1000000000,out ++ [(x + cy + y) % 1000000000],hk1,E0.out,E1.out,rfl,rfl,own_push hown',hlen1.out _,L.out,r.out,hb'⟩,rfl⟩,meas_succ hkn⟩
    ·have hki2 : ¬ ((k : Int) < m) := by omega
     have E0 := hid (show 0 ≤ (x + cy) / 1000000000 by omega); have E1 := hid (show (x + cy) / 1000000000 ≤ 1 by omega)
     have L := hid (show Lims (out ++ [(x + cy) % 1000000000]) from hlo.out.snoc (by omega) (by omega))
     have r := hid (show val (out ++ [(x + cy) % 1000000000]) + pw (k + 1) * ((x + cy) / 1000000000) = val (xs.take (k + 1)) + val (ys.take (k + 1)) by
      have hyl : ys.length ≤ k := by rw [hly.out]; exact hkm
      have := hv.out
      rw [List.take_of_length_le hyl] at this
      rw [carry_out hol.out,val_take_step HX1.out,List.take_of_length_le (show ys.length ≤ k + 1 by omega)]
      grind)
     clear hkm hol' hn hm
     go_wp2_with (first | (at_builtin; refine wpList_append_own _ rfl _ _ 28 rfl w.heap.size 3 i0 (.int .i64 0) 1 8 Tryz.underlying28 hi hz0 hz1 hz2 rfl (by decide) _ _ _ rfl (hown.alloc _) ⟨wr.heap.size,0,none⟩ 1 1 [.int .i64 ((x + cy) % 1000000000)] rfl rfl (cell_one_new _ _ _) (fun x hx => by simp at hx; subst hx; rfl) C3.out C4.out (le_alloc C5.out _) ?_; intro v' w3 hown' hgrow' hnil'))
     have hb' := below_push hb hown hgrow'
     first
     | exact ⟨⟨k + 1,(x + cy) / 1000000000,out ++ [(x + cy) % 1000000000],hk1,E0.out,E1.out,rfl,rfl,own_push hown',hlen1.out _,L.out,r.out,hb'⟩,meas_succ hkn⟩
     | exact ⟨by (repeat apply Exists.intro); exact ⟨⟨k + 1,(x + cy) / 1000000000,out ++ [(x + cy) % 1000000000],hk1,E0.out,E1.out,rfl,rfl,own_push hown',hlen1.out _,L.out,r.out,hb'⟩,rfl⟩,meas_succ hkn⟩
   ·have hke : k = n := by omega
    subst hke
    have fin := hid (show (if 0 < cy then out ++ [cy] else out) = dig (val xs + val ys).toNat by
     have hyl : ys.length ≤ k := by rw [hly.out]; omega
     have := hv.out
     rw [List.take_of_length_le hyl,List.take_of_length_le (Nat.le_of_eq hlx.out)] at this
     have := add_end CX.out hlo.out (by rw [hol.out,hlx.out]) (by rw [hlx.out]; exact this) hV.out hcy0 (by omega)
     rw [this]; skip)
    have hki2 : ¬ ((k : Int) < k) := by omega
    have hol' : out.length ≤ 1048576 := by rw [hol.out]; exact hnn.out
    have C3 := hid (show out.length + 1 ≤ maxLen by unfold maxLen; omega)
    have C4 := hid (show (out.length + 1) * 8 ≤ 140737488355328 by omega)
    have C5 := hid hb.size
    clear hol' hn hm
    rcases Int.lt_or_le 0 cy with hc | hc
    ·rw [if_pos hc] at fin
     go_wp2_with (first | (at_builtin; refine wpList_append_own _ rfl _ _ 28 rfl w.heap.size 3 i0 (.int .i64 0) 1 8 Tryz.underlying28 hi hz0 hz1 hz2 rfl (by decide) _ _ _ rfl (hown.alloc _) ⟨wr.heap.size,0,none⟩ 1 1 [.int .i64 (cy)] rfl rfl (cell_one_new _ _ _) (fun x hx => by simp at hx; subst hx; rfl) C3.out C4.out (le_alloc C5.out _) ?_; intro v' w3 hown' hgrow' hnil'))
     have hb' := below_push hb hown hgrow'
     go_wp2
     go_ret
     rw [← fin.out]
     refine gives_row (own_push hown') rfl ?_ hb'
     rw [fin.out]; exact (dig_can _).1.i64
    ·have hc0 : cy = 0 := by omega
     subst hc0
     rw [if_neg (by omega)] at fin
     go_wp2
     go_ret
     rw [← fin.out]
     refine gives_row hown rfl ?_ hb
     rw [fin.out]; exact (dig_can _).1.i64

theorem trimmed_row (A : Option Addr) (n c b : Nat) (zs : List Int) (w : World) (h : w.ownsRow b 3 1 (.slice A n c) n (zs.map (.int .i64))) (hi : ∀ x ∈ zs,I64 x) :
  Calls Tryz.prog 105 #[.slice A n c] w (fun e w' => e = .returned (.slice A (trim zs).length c) ∧ Below w.heap.size w w' ∧ w'.ownsRow b 3 1 (.slice A (trim zs).length c) (trim zs).length ((trim zs).map (.int .i64))) := by
 obtain ⟨bs,hs⟩ := row_sl h hi
 refine (impl_trimmed A n c zs bs w hs).mono fun e w' ⟨he,hb⟩ => ⟨he,hb, ?_⟩
 have hz : zs.length = n := hs.1
 have hle : (trim zs).length ≤ n := by rw [trim_take zs,List.length_take]; omega
 have := row_take (ownsRow_below h hb) hle
 rwa [← trim_take] at this

set_option maxHeartbeats 2000000 in
theorem impl_natSub (A B : Option Addr) (n m c d : Nat) (xs ys : List Int) (bs ds : List Nat) (w : World) (hx : Sl w A n c xs bs) (hy : Sl w B m d ys ds) (hcx : XN.Can xs) (hcy : XN.Can ys) (hn : n ≤ 1048576) (hle : val ys ≤ val xs) :
  Calls Tryz.prog 176 #[.slice A n c, .slice B m d] w (GivesSl w (dig (val xs - val ys).toNat)) := by
 have hlx := hid hx.1
 have hly := hid hy.1
 have HX := hid hx
 have HY := hid hy
 have CX := hid hcx
 have CY := hid hcy
 have HLE := hid hle
 clear hx hy hcx hcy hle
 go_enter Tryz.func176,Tryz.ntmps176
 go_wp2_with fail
 refine (clone_row A n c xs bs w HX.out hn).mono ?_
 rintro _ w1 ⟨v1,rfl,hown1,hb1⟩
 rw [hlx.out] at hown1
 obtain ⟨A1,c1,rfl⟩ := row_any hown1
 go_wp2_with fail
 go_loopw [6,12] (fun y i wr => ∃ (k : Nat) (bw : Int) (zs out : List Int),k ≤ n ∧ 0 ≤ bw ∧ bw ≤ 1 ∧ i = .int .i64 k ∧ y = .int .i64 bw ∧ wr.ownsRow w.heap.size 3 1 (.slice A1 n c1) n (zs.map (.int .i64)) ∧ Hid (zs = out ++ xs.drop k) ∧ Hid (out.length = k) ∧ Hid (Lims out) ∧ Hid (val out = val (xs.take k) - val (ys.take k) + pw k * bw) ∧ Below w.heap.size w wr) (fun y i wr => n - (intOf i).toNat)
 case atStart => exact ⟨0,0,xs, [],Nat.zero_le _,by omega,by omega,rfl,rfl,hown1,rfl,rfl,Lims.nil,by simp [Hid,val],hb1⟩
 case round =>
  obtain ⟨k,bw,zs,out,hk,hbw0,hbw1,rfl,rfl,hown,hzs,hol,hlo,hv,hb⟩ := hrel
  clear hown1 hb1
  rcases Nat.lt_or_ge k n with hkn | hkn
  ·obtain ⟨g,rfl,hwg,hgl,hnc,hcm⟩ := row_at hown (by omega)
   have hki : (k : Int) < n := by omega
   have hkl : k < xs.length := by rw [hlx.out]; exact hkn
   have HX1 := hid (List.getElem?_eq_getElem hkl)
   have hxl := CX.out.1.get HX1.out
   generalize xs[k] = x at *
   have hx0 := hxl.1; have hx1 := hxl.2
   have HZ := hid (show zs[k]? = some x by rw [hzs.out]; exact get_mid hol.out HX1.out)
   obtain ⟨_,hc1,hf1⟩ := row_cell hown HZ.out
   unfold maxLen at hcm
   have hnc' : (n : Int) ≤ c1 := by omega
   clear hxl
   have hkb : (k : Int) ≤ 1048576 := by omega
   have hk1 : k + 1 ≤ n := hkn
   have st1 := row_set hown k (x - bw)
   have hbs1 := hb.setCell (p := ⟨g,k,none⟩) hwg (.int .i64 (x - bw))
   rcases Nat.lt_or_ge k m with hkm | hkm
   ·obtain ⟨b2,o2,y,rfl,hb2,hy1,hyi,hc2⟩ := Sl.getInt HY.out hkm
    have hyl := CY.out.1.get hy1
    have HY1 := hid hy1
    have hy0 := hyl.1; have hy1' := hyl.2
    have hki2 : (k : Int) < m := by omega
    clear hyl hyi hy1
    go_wp2_with fail
    have HS := hid (show (zs.set k (x - bw))[k]? = some (x - bw) by rw [List.getElem?_set_self (List.getElem?_eq_some_iff.1 HZ.out).1])
    clear hc1 hf1
    generalize wr.setCell ⟨g,k,none⟩ (.int .i64 (x - bw)) = W1 at *
    obtain ⟨hgl1,hc1,hf1⟩ := row_cell st1 HS.out
    have hc2' := (hbs1.cell (p := ⟨b2,o2 + k,none⟩) hb2).trans hc2
    have hb2' : b2 < W1.heap.size := by have := hbs1.size; omega
    clear hc2 hb2
    refine wp_region_last (by simp) (by kernel_rfl) (by kernel_rfl) (by kernel_rfl) (by kernel_rfl) ?_
    dsimp only [List.dropLast,List.getLast,List.length]
    iterate 10
     apply walkM_eq
     case h =>
      intro yq zq wq hC hd
      obtain ⟨hcq,hfq⟩ := bcell hC
      simp at hd
      refine ⟨by go_simp; done, ?_⟩
      go_simp
      first | (go_ints; exact rfl) | (go_ints; rw [if_pos (by omega)]; try exact rfl) | exact rfl | (rw [if_pos (by omega)]; try exact rfl)
    intro yq zq u hC hd hdis0
    have hdis := hid hdis0
    clear hdis0
    simp at hd
    have stu := ownsRow_below st1 hC
    have hbu : Below w.heap.size w u := Below.go
    have Hd := hid hd
    clear hd hdis hC hc1 hf1
    obtain ⟨hglu,hcu,hfu⟩ := row_cell stu HS.out
    have hlen1 := hid (show ∀ x : Int,(out ++ [x]).length = k + 1 by intro x; rw [List.length_append,hol.out]; rfl)
    have HKL := hid hkl
    rcases Int.lt_or_le (x - bw - y) 0 with hneg | hneg
    ·have L := hid (show Lims (out ++ [x - bw - y + 1000000000]) from hlo.out.snoc (by omega) (by omega))
     have r := hid (show val (out ++ [x - bw - y + 1000000000]) = val (xs.take (k + 1)) - val (ys.take (k + 1)) + pw (k + 1) * 1 by
      rw [val_snoc,hol.out,hv.out,val_take_step HX1.out,val_take_step HY1.out,pw_succ]; grind)
     have E := hid (show ((zs.set k (x - bw)).set k (x - bw - y)).set k (x - bw - y + 1000000000) = (out ++ [x - bw - y + 1000000000]) ++ xs.drop (k + 1) by
      rw [List.set_set,List.set_set,hzs.out]; exact set_mid hol.out HKL.out _)
     have R := hid (row_set (row_set stu k (x - bw - y)) k (x - bw - y + 1000000000))
     have hb' := hid ((hbu.setCell (p := ⟨g,k,none⟩) hwg (.int .i64 (x - bw - y))).setCell (p := ⟨g,k,none⟩) hwg (.int .i64 (x - bw - y + 1000000000)))
     clear hkl
     go_simp
     have hd := Hd.out
     go_wp2_with fail
     first
     | exact ⟨⟨k + 1,1, _,out ++ [x - bw - y + 1000000000],hk1,Int.zero_le_ofNat 1,Int.le_refl 1,rfl,rfl,R.out,E.out,hlen1.out _,L.out,r.out,hb'.out⟩,meas_succ hkn⟩
     | exact ⟨by (repeat apply Exists.intro); exact ⟨⟨k + 1,1, _,out ++ [x - bw - y + 1000000000],hk1,Int.zero_le_ofNat 1,Int.le_refl 1,rfl,rfl,R.out,E.out,hlen1.out _,L.out,r.out,hb'.out⟩,rfl⟩,meas_succ hkn⟩
    ·have hneg' : ¬ (x - bw - y < 0) := by omega
     have L := hid (show Lims (out ++ [x - bw - y]) from hlo.out.snoc (by omega) (by omega))
     have r := hid (show val (out ++ [x - bw - y]) = val (xs.take (k + 1)) - val (ys.take (k + 1)) + pw (k + 1) * 0 by
      rw [val_snoc,hol.out,hv.out,val_take_step HX1.out,val_take_step HY1.out,pw_succ]; grind)
     have E := hid (show ((zs.set k (x - bw)).set k (x - bw - y)) = (out ++ [x - bw - y]) ++ xs.drop (k + 1) by
      rw [List.set_set,hzs.out]; exact set_mid hol.out HKL.out _)
     have R := hid (row_set stu k (x - bw - y))
     have hb' := hid (hbu.setCell (p := ⟨g,k,none⟩) hwg (.int .i64 (x - bw - y)))
     clear hkl
     go_simp
     have hd := Hd.out
     go_wp2_with fail
     first
     | exact ⟨⟨k + 1,0, _,out ++ [x - bw - y],hk1,Int.le_refl 0,Int.zero_le_ofNat 1,rfl,rfl,R.out,E.out,hlen1.out _,L.out,r.out,hb'.out⟩,meas_succ hkn⟩
     | exact ⟨by (repeat apply Exists.intro); exact ⟨⟨k + 1,0, _,out ++ [x - bw - y],hk1,Int.le_refl 0,Int.zero_le_ofNat 1,rfl,rfl,R.out,E.out,hlen1.out _,L.out,r.out,hb'.out⟩,rfl⟩,meas_succ hkn⟩
   ·have hki2 : ¬ ((k : Int) < m) := by omega
    have hyl := hid (show ys.length ≤ k by rw [hly.out]; exact hkm)
    have hlen1 := hid (show ∀ x : Int,(out ++ [x]).length = k + 1 by intro x; rw [List.length_append,hol.out]; rfl)
    have HKL := hid hkl
    clear hkl
    have hv' := hid (show val out = val (xs.take k) - val ys + pw k * bw by have := hv.out; rwa [List.take_of_length_le hyl.out] at this)
    rcases Int.lt_or_le (x - bw) 0 with hneg | hneg
    ·have L := hid (show Lims (out ++ [x - bw + 1000000000]) from hlo.out.snoc (by omega) (by omega))
     have r := hid (show val (out ++ [x - bw + 1000000000]) = val (xs.take (k + 1)) - val (ys.take (k + 1)) + pw (k + 1) * 1 by
      rw [List.take_of_length_le (show ys.length ≤ k + 1 from Nat.le_succ_of_le hyl.out),val_snoc,hol.out,hv'.out,val_take_step HX1.out,pw_succ]; grind)
     have E := hid (show ((zs.set k (x - bw)).set k (x - bw + 1000000000)) = (out ++ [x - bw + 1000000000]) ++ xs.drop (k + 1) by
      rw [List.set_set,hzs.out]; exact set_mid hol.out HKL.out _)
     have R := hid (row_set st1 k (x - bw + 1000000000))
     have hb' := hid (hbs1.setCell (p := ⟨g,k,none⟩) hwg (.int .i64 (x - bw + 1000000000)))
     clear st1 hbs1 hkm
     go_wp2_with fail
     first
     | exact ⟨⟨k + 1,1, _,out ++ [x - bw + 1000000000],hk1,Int.zero_le_ofNat 1,Int.le_refl 1,rfl,rfl,R.out,E.out,hlen1.out _,L.out,r.out,hb'.out⟩,meas_succ hkn⟩
     | exact ⟨by (repeat apply Exists.intro); exact ⟨⟨k + 1,1, _,out ++ [x - bw + 1000000000],hk1,Int.zero_le_ofNat 1,Int.le_refl 1,rfl,rfl,R.out,E.out,hlen1.out _,L.out,r.out,hb'.out⟩,rfl⟩,meas_succ hkn⟩
    ·have hneg' : ¬ (x - bw < 0) := by omega
     have L := hid (show Lims (out ++ [x - bw]) from hlo.out.snoc (by omega) (by omega))
     have r := hid (show val (out ++ [x - bw]) = val (xs.take (k + 1)) - val (ys.take (k + 1)) + pw (k + 1) * 0 by
      rw [List.take_of_length_le (show ys.length ≤ k + 1 from Nat.le_succ_of_le hyl.out),val_snoc,hol.out,hv'.out,val_take_step HX1.out,pw_succ]; grind)
     have E := hid (show zs.set k (x - bw) = (out ++ [x - bw]) ++ xs.drop (k + 1) by
      rw [hzs.out]; exact set_mid hol.out HKL.out _)
     have R := hid st1
     have hb' := hid hbs1
     clear st1 hbs1 hkm
     go_wp2_with fail
     first
     | exact ⟨⟨k + 1,0, _,out ++ [x - bw],hk1,Int.le_refl 0,Int.zero_le_ofNat 1,rfl,rfl,R.out,E.out,hlen1.out _,L.out,r.out,hb'.out⟩,meas_succ hkn⟩
     | exact ⟨by (repeat apply Exists.intro); exact ⟨⟨k + 1,0, _,out ++ [x - bw],hk1,Int.le_refl 0,Int.zero_le_ofNat 1,rfl,rfl,R.out,E.out,hlen1.out _,L.out,r.out,hb'.out⟩,rfl⟩,meas_succ hkn⟩
  ·have hke : k = n := by omega
   subst hke
   have hzo := hid (show zs = out by rw [hzs.out,List.drop_eq_nil_of_le (Nat.le_of_eq hlx.out),List.append_nil])
   have ht := hid (show trim zs = dig (val xs - val ys).toNat by
    have h1 := hv.out
    rw [List.take_of_length_le (Nat.le_of_eq hlx.out)] at h1
    have h3 : ys.length ≤ k := by
     rcases Nat.lt_or_ge xs.length ys.length with h | h
     ·have := Can.lt_of_len CX.out.1 CY.out h; have := HLE.out; omega
     ·rw [← hlx.out]; exact h
    rw [List.take_of_length_le h3] at h1
    have h4 := val_lt hlo.out
    rw [hol.out] at h4
    have h5 := HLE.out
    have hbw : bw = 0 := by
     rcases Int.lt_or_le 0 bw with h | h
     ·have : bw = 1 := by omega
      subst this; omega
     ·omega
    rw [hbw] at h1
    rw [hzo.out]
    exact trim_dig hlo.out (by omega))
   have hki2 : ¬ ((k : Int) < k) := by omega
   have hI := hid (show ∀ x ∈ zs,I64 x by rw [hzo.out]; exact hlo.out.i64)
   clear hkn hk
   go_wp2_with fail
   refine (trimmed_row _ _ _ _ zs _ hown hI.out).mono ?_
   rintro _ w3 ⟨rfl,hb3,hown3⟩
   have hb' : Below w.heap.size w w3 := Below.go
   go_wp2
   go_ret
   rw [ht.out] at hown3 ⊢
   exact gives_row hown3 rfl (dig_can _).1.i64 hb'

set_option maxHeartbeats 2000000 in
theorem impl_natMul (A B : Option Addr) (n m c d : Nat) (xs ys : List Int) (bs ds : List Nat) (w : World) (hx : Sl w A n c xs bs) (hy : Sl w B m d ys ds) (hcx : Lims xs) (hcy : Lims ys) (hn : n ≤ 1048576) (hm : m ≤ 1048576) :
  Calls Tryz.prog 58 #[.slice A n c, .slice B m d] w (GivesSl w (dig (val xs * val ys).toNat)) := by
 obtain ⟨i0,hi,hz0,hz1,hz2⟩ := info_parts infoI
 have hlx := hid hx.1
 have hly := hid hy.1
 have HX := hid hx
 have HY := hid hy
 have CX := hid hcx
 have CY := hid hcy
 have b2 := hid (show i0.bytes * (n + m) ≤ 281474976710656 by rw [hz2]; omega)
 have b3 := hid (show n + m ≤ maxLen by unfold maxLen; omega)
 clear hx hy hcx hcy
 go_enter Tryz.func58,Tryz.ntmps58
 go_wp2_with (at_make; (refine wpList_make_full _ rfl _ _ 28 rfl w.heap.size 3 i0 (.int .i64 0) 1 Tryz.underlying28 hi hz0 hz1 .i64 .i64 _ _ (n + m) rfl rfl rfl rfl b2.out b3.out (Nat.le_refl _) ?_); intro w1 hown1 hgrow1)
 rw [zeros_row] at hown1
 have hb1 := (Below.refl w.heap.size w).grown hgrow1 (Nat.le_refl _) (by intro k hk; cases hk)
 clear hgrow1
 go_loopw [20] (fun i wr => ∃ (k : Nat) (zs : List Int),k ≤ n ∧ i = .int .i64 k ∧ wr.ownsRow w.heap.size 3 1 (.slice (some ⟨w.heap.size,0,none⟩) (n + m) (n + m)) (n + m) (zs.map (.int .i64)) ∧ Hid (Lims zs) ∧ Hid (∀ j,k + m ≤ j → j < n + m → zs[j]? = some 0) ∧ Hid (val zs = val (xs.take k) * val ys) ∧ Below w.heap.size w wr) (fun i wr => n - (intOf i).toNat)
 case atStart => exact ⟨0, _,Nat.zero_le _,rfl,hown1,Lims.zeros _,fun j _ hj => by rw [List.getElem?_replicate,if_pos hj],by show val _ = val (xs.take 0) * val ys; rw [val_replicate,List.take_zero]; simp [val],hb1⟩
 case round =>
  obtain ⟨i,zs,hk,rfl,hown,hlz,hzz,hv,hb⟩ := hrel
  clear hown1 hb1 hi hz0 hz1 hz2
  obtain ⟨wo,rfl⟩ : ∃ wo : World,wo = wr := ⟨_,rfl⟩
  rcases Nat.lt_or_ge i n with hkn | hkn
  ·have hki : (i : Int) < n := by omega
   obtain ⟨b1,o1,x,rfl,hb1,hx1, _,hc1⟩ := Sl.getInt HX.out hkn
   have hxl := CX.out.get hx1
   have HX1 := hid hx1
   have hx0 := hxl.1; have hx1' := hxl.2
   clear hxl hx1
   have hc1' := (hb.cell (p := ⟨b1,o1 + i,none⟩) hb1).trans hc1
   have hOwnO := hid hown
   clear hown
   go_wp2_with fail
   go_loopw [8,27] (fun y j wr => ∃ (k : Nat) (cy : Int) (zs : List Int),k ≤ m ∧ 0 ≤ cy ∧ cy < 1000000000 ∧ j = .int .i64 k ∧ y = .int .i64 cy ∧ wr.ownsRow w.heap.size 3 1 (.slice (some ⟨w.heap.size,0,none⟩) (n + m) (n + m)) (n + m) (zs.map (.int .i64)) ∧ Hid (Lims zs) ∧ Hid (∀ j,i + m ≤ j → j < n + m → zs[j]? = some 0) ∧ Hid (val zs + pw (i + k) * cy = val (xs.take i) * val ys + pw i * (x * val (ys.take k))) ∧ Below w.heap.size w wr) (fun y j wr => m - (intOf j).toNat)
   case atStart => exact ⟨0,0,zs,Nat.zero_le _,by omega,by omega,rfl,rfl,hOwnO.out,hlz,hzz,by show val zs + pw (i + 0) * 0 = val (xs.take i) * val ys + pw i * (x * val (ys.take 0)); rw [hv.out,List.take_zero]; simp [val],hb⟩
   case round =>
    obtain ⟨k,cy,us,hkm,hcy0,hcy1,rfl,rfl,hown,hlu,hzu,hvu,hbu⟩ := hrel
    clear hOwnO hlz hzz hv hb hc1 hb1 hc1'
    rcases Nat.lt_or_ge k m with hkl | hkl
    ·have hkj : (k : Int) < m := by omega
     obtain ⟨b2,o2,y,rfl,hb2,hy1, _,hc2⟩ := Sl.getInt HY.out hkl
     have hyl := CY.out.get hy1
     have HY1 := hid hy1
     have hy0 := hyl.1; have hy1' := hyl.2
     clear hyl hy1
     have hc2' := (hbu.cell (p := ⟨b2,o2 + k,none⟩) hb2).trans hc2
     obtain ⟨u,hu,hu0,hu1⟩ := hlu.out.num (j := i + k) (by rw [row_len hown]; omega)
     have HU := hid hu
     obtain ⟨hgl,hcu,hfu⟩ := row_cell hown hu
     clear hu hc2 hb2
     obtain ⟨hp0,hp1⟩ := mul_lim hx0 hx1' hy0 hy1'
     have hkb : (k : Int) ≤ 1048576 := by omega
     have hib : (i : Int) ≤ 1048576 := by omega
     have hik : (i : Int) + k < n + m := by omega
     have hk1 : k + 1 ≤ m := hkl
     have E0 := hid (show 0 ≤ (u + x * y + cy) / 1000000000 by omega)
     have E1 := hid (show (u + x * y + cy) / 1000000000 < 1000000000 by omega)
     have L := hid (hlu.out.set (i + k) (u := (u + x * y + cy) % 1000000000) (by omega) (by omega))
     have Z := hid (show ∀ j,i + m ≤ j → j < n + m → (us.set (i + k) ((u + x * y + cy) % 1000000000))[j]? = some 0 by
      intro j h1 h2; rw [List.getElem?_set_ne (by omega)]; exact hzu.out j h1 h2)
     have r := hid (show val (us.set (i + k) ((u + x * y + cy) % 1000000000)) + pw (i + (k + 1)) * ((u + x * y + cy) / 1000000000) = val (xs.take i) * val ys + pw i * (x * val (ys.take (k + 1))) by
      rw [show i + (k + 1) = i + k + 1 from rfl,mul_step HU.out hvu.out,val_take_step HY1.out,pw_add]
      grind)
     have R := hid (row_set hown (i + k) ((u + x * y + cy) % 1000000000))
     have hb' := hid (hbu.setCell (p := ⟨w.heap.size,i + k,none⟩) (Nat.le_refl _) (.int .i64 ((u + x * y + cy) % 1000000000)))
     go_wp2_with fail
     first
     | exact ⟨⟨k + 1,(u + x * y + cy) / 1000000000, _,hk1,E0.out,E1.out,rfl,rfl,R.out,L.out,Z.out,r.out,hb'.out⟩,meas_succ hkl⟩
     | exact ⟨by (repeat apply Exists.intro); exact ⟨⟨k + 1,(u + x * y + cy) / 1000000000, _,hk1,E0.out,E1.out,rfl,rfl,R.out,L.out,Z.out,r.out,hb'.out⟩,rfl⟩,meas_succ hkl⟩
    ·have hke : k = m := by omega
     subst hke
     have hkj : ¬ ((k : Int) < k) := by omega
     have HU := hid (hzu.out (i + k) (Nat.le_refl _) (by omega))
     obtain ⟨hgl,hcu,hfu⟩ := row_cell hown HU.out
     have hkb : (k : Int) ≤ 1048576 := by omega
     have hib : (i : Int) ≤ 1048576 := by omega
     have hik : (i : Int) + k < n + k := by omega
     have hk1 : i + 1 ≤ n := hkn
     have L := hid (hlu.out.set (i + k) (u := cy) hcy0 hcy1)
     have Z := hid (show ∀ j,i + 1 + k ≤ j → j < n + k → (us.set (i + k) cy)[j]? = some 0 by
      intro j h1 h2; rw [List.getElem?_set_ne (by omega)]; exact hzu.out j (by omega) h2)
     have r := hid (show val (us.set (i + k) cy) = val (xs.take (i + 1)) * val ys by
      have h1 := hvu.out
      rw [List.take_of_length_le (Nat.le_of_eq hly.out)] at h1
      rw [val_set HU.out,val_take_step HX1.out]
      grind)
     have R := hid (row_set hown (i + k) cy)
     have hb' := hid (hbu.setCell (p := ⟨w.heap.size,i + k,none⟩) (Nat.le_refl _) (.int .i64 cy))
     clear hkl
     go_wp2_with fail
     first
     | exact ⟨⟨i + 1, _,hk1,rfl,R.out,L.out,Z.out,r.out,hb'.out⟩,meas_succ hkn⟩
     | exact ⟨by (repeat apply Exists.intro); exact ⟨⟨i + 1, _,hk1,rfl,R.out,L.out,Z.out,r.out,hb'.out⟩,rfl⟩,meas_succ hkn⟩
  ·have hke : i = n := by omega
   subst hke
   have ht := hid (show trim zs = dig (val xs * val ys).toNat by
    have h1 := hv.out
    rw [List.take_of_length_le (Nat.le_of_eq hlx.out)] at h1
    have h2 := Int.mul_nonneg (val_nonneg CX.out) (val_nonneg CY.out)
    exact trim_dig hlz.out (by omega))
   have hki2 : ¬ ((i : Int) < i) := by omega
   clear hkn hk
   go_wp2_with fail
   refine (trimmed_row _ _ _ _ zs _ hown hlz.out.i64).mono ?_
   rintro _ w3 ⟨rfl,hb3,hown3⟩
   have hb' : Below w.heap.size w w3 := Below.go
   go_wp2
   go_ret
   rw [ht.out] at hown3 ⊢
   exact gives_row hown3 rfl (dig_can _).1.i64 hb'

def GivesRowInt (w : World) (xs : List Int) (r : Int) (e : Ending) (w' : World) : Prop :=
 ∃ v,e = .returned (.tuple #[v, .int .i64 r]) ∧ w'.ownsRow w.heap.size 3 1 v xs.length (xs.map (.int .i64)) ∧ Below w.heap.size w w'

set_option maxHeartbeats 2000000 in
theorem impl_divSmall (A : Option Addr) (n c : Nat) (xs : List Int) (bs : List Nat) (d : Int) (w : World) (hx : Sl w A n c xs bs) (hcx : Lims xs) (hd0 : 0 < d) (hd1 : d < 1000000000) (hn : n ≤ 1048576) :
  Calls Tryz.prog 138 #[.slice A n c, .int .i64 d] w (GivesRowInt w (dig (val xs / d).toNat) (val xs % d)) := by
 obtain ⟨i0,hi,hz0,hz1,hz2⟩ := info_parts infoI
 have hlx := hid hx.1
 have HX := hid hx
 have CX := hid hcx
 have b2 := hid (show i0.bytes * n ≤ 281474976710656 by rw [hz2]; omega)
 have b3 := hid (show n ≤ maxLen by unfold maxLen; omega)
 clear hx hcx
 go_enter Tryz.func138,Tryz.ntmps138
 go_wp2_with (at_make; (refine wpList_make_full _ rfl _ _ 28 rfl w.heap.size 3 i0 (.int .i64 0) 1 Tryz.underlying28 hi hz0 hz1 .i64 .i64 _ _ n rfl rfl rfl rfl b2.out b3.out (Nat.le_refl _) ?_); intro w1 hown1 hgrow1)
 rw [zeros_row] at hown1
 have hb1 := (Below.refl w.heap.size w).grown hgrow1 (Nat.le_refl _) (by intro k hk; cases hk)
 clear hgrow1
 go_loopw [7,8] (fun r i wr => ∃ (K : Nat) (q : Int) (zs : List Int),K ≤ n ∧ i = .int .i64 ((K : Int) - 1) ∧ r = .int .i64 q ∧ 0 ≤ q ∧ q < d ∧ wr.ownsRow w.heap.size 3 1 (.slice (some ⟨w.heap.size,0,none⟩) n n) n (zs.map (.int .i64)) ∧ Hid (Lims zs) ∧ Hid (val (zs.drop K) * d + q = val (xs.drop K)) ∧ Below w.heap.size w wr) (fun r i wr => (intOf i + 1).toNat)
 case atStart =>
  refine ⟨n,0, _,Nat.le_refl _,rfl,rfl,Int.le_refl _,hd0,hown1,Lims.zeros _, ?_,hb1⟩
  show val ((List.replicate n (0 : Int)).drop n) * d + 0 = val (xs.drop n)
  rw [List.drop_eq_nil_of_le (by simp),List.drop_eq_nil_of_le (Nat.le_of_eq hlx.out)]; simp [val]
 case round =>
  obtain ⟨K,q,zs,hK,rfl,rfl,hq0,hq1,hown,hlz,hv,hb⟩ := hrel
  clear hown1 hb1 hi hz0 hz1 hz2
  rcases Nat.eq_zero_or_pos K with h0 | h0
  ·subst h0
   have e := hid (show dig (val xs / d).toNat = trim zs ∧ val xs % d = q by
    have h1 := hv.out
    rw [List.drop_zero,List.drop_zero] at h1
    obtain ⟨e1,e2⟩ := div_of hd0 h1 hq0 hq1
    refine ⟨?_,e2⟩
    rw [e1]; exact (trim_dig hlz.out (Int.toNat_of_nonneg (val_nonneg hlz.out)).symm).symm)
   have hneg : ¬ ((0 : Int) ≤ ((0 : Nat) : Int) - 1) := by omega
   go_wp2_with fail
   refine (trimmed_row _ _ _ _ zs _ hown hlz.out.i64).mono ?_
   rintro _ w3 ⟨rfl,hb3,hown3⟩
   have hb' : Below w.heap.size w w3 := Below.go
   go_wp2
   go_ret2
   rw [e.out.1,e.out.2]
   exact ⟨_,rfl,hown3,hb'⟩
  ·obtain ⟨j,rfl⟩ : ∃ j,K = j + 1 := ⟨K - 1,by omega⟩
   have ej : (((j + 1 : Nat) : Int) - 1) = j := by omega
   rw [ej]
   have hjn : j < n := hK
   obtain ⟨b1,o1,x,rfl,hb1,hx1, _,hc1⟩ := Sl.getInt HX.out hjn
   have hxl := CX.out.get hx1
   have HX1 := hid hx1
   have hx0 := hxl.1; have hx1' := hxl.2
   have hc1' := (hb.cell (p := ⟨b1,o1 + j,none⟩) hb1).trans hc1
   have hb1' : b1 < wr.heap.size := by have := hb.size; omega
   clear hxl hx1 hc1 hb1
   obtain ⟨u,hu,hu0,hu1⟩ := hlz.out.num (j := j) (by rw [row_len hown]; omega)
   obtain ⟨hgl,hcu,hfu⟩ := row_cell hown hu
   have HJ := hid (show j < zs.length by rw [row_len hown]; omega)
   clear hu hu0 hu1
   have Q := hid (quo_lim hd0 hq0 hq1 hx0 hx1')
   have r := hid (div_step HJ.out HX1.out hv.out)
   have L := hid (hlz.out.set j Q.out.1 Q.out.2.1)
   have R := hid (row_set hown j ((q * 1000000000 + x) / d))
   have hb' := hid (hb.setCell (p := ⟨w.heap.size,j,none⟩) (Nat.le_refl _) (.int .i64 ((q * 1000000000 + x) / d)))
   have hjl : (j : Int) < n := by omega
   have hnb : (n : Int) ≤ 1048576 := by omega
   have hj1 : j ≤ n := by omega
   have hd1' : 1 ≤ d := by omega
   have rm : (intOf (Value.int .i64 ((j : Int) - 1)) + 1).toNat < (intOf (Value.int .i64 (j : Int)) + 1).toNat := by simp [intOf]
   clear ej hK h0
   go_wp2_with fail
   first
   | exact ⟨⟨j,(q * 1000000000 + x) % d, _,hj1,rfl,rfl,Q.out.2.2.1,Q.out.2.2.2,R.out,L.out,r.out,hb'.out⟩,rm⟩
   | exact ⟨by (repeat apply Exists.intro); exact ⟨⟨j,(q * 1000000000 + x) % d, _,hj1,rfl,rfl,Q.out.2.2.1,Q.out.2.2.2,R.out,L.out,r.out,hb'.out⟩,rfl⟩,rm⟩

def GivesLims (w : World) (N : Nat) (V : Int) (e : Ending) (w' : World) : Prop :=
 ∃ zs,e = .returned (.slice (some ⟨w.heap.size,0,none⟩) N N) ∧ zs.length = N ∧ Lims zs ∧ val zs = V ∧ w'.ownsRow w.heap.size 3 1 (.slice (some ⟨w.heap.size,0,none⟩) N N) N (zs.map (.int .i64)) ∧ Below w.heap.size w w'

set_option maxHeartbeats 2000000 in
theorem impl_scaled (A : Option Addr) (n c N : Nat) (xs : List Int) (bs : List Nat) (d : Int) (w : World) (hx : Sl w A n c xs bs) (hcx : Lims xs) (hd0 : 0 < d) (hd1 : d < 1000000000) (hN : N ≤ 1048576) (hle : n ≤ N) (hV : val xs * d < pw N) :
  Calls Tryz.prog 139 #[.slice A n c, .int .i64 d, .int .i64 N] w (GivesLims w N (val xs * d)) := by
 obtain ⟨i0,hi,hz0,hz1,hz2⟩ := info_parts infoI
 have hlx := hid hx.1
 have HX := hid hx
 have CX := hid hcx
 have HV := hid hV
 have b2 := hid (show i0.bytes * N ≤ 281474976710656 by rw [hz2]; omega)
 have b3 := hid (show N ≤ maxLen by unfold maxLen; omega)
 clear hx hcx hV
 go_enter Tryz.func139,Tryz.ntmps139
 go_wp2_with (at_make; (refine wpList_make_full _ rfl _ _ 28 rfl w.heap.size 3 i0 (.int .i64 0) 1 Tryz.underlying28 hi hz0 hz1 .i64 .i64 _ _ N rfl rfl rfl rfl b2.out b3.out (Nat.le_refl _) ?_); intro w1 hown1 hgrow1)
 rw [zeros_row] at hown1
 have hb1 := (Below.refl w.heap.size w).grown hgrow1 (Nat.le_refl _) (by intro k hk; cases hk)
 clear hgrow1
 go_loopw [8,15] (fun y i wr => ∃ (k : Nat) (cy : Int) (zs : List Int),k ≤ N ∧ 0 ≤ cy ∧ cy < 1000000000 ∧ i = .int .i64 k ∧ y = .int .i64 cy ∧ wr.ownsRow w.heap.size 3 1 (.slice (some ⟨w.heap.size,0,none⟩) N N) N (zs.map (.int .i64)) ∧ Hid (Lims zs) ∧ Hid (∀ j,k ≤ j → j < N → zs[j]? = some 0) ∧ Hid (val zs + pw k * cy = val (xs.take k) * d) ∧ Below w.heap.size w wr) (fun y i wr => N - (intOf i).toNat)
 case atStart =>
  refine ⟨0,0, _,Nat.zero_le _,Int.le_refl _,by omega,rfl,rfl,hown1,Lims.zeros _,fun j _ hj => by rw [List.getElem?_replicate,if_pos hj], ?_,hb1⟩
  show val _ + pw 0 * 0 = val (xs.take 0) * d
  rw [val_replicate,List.take_zero]; simp [val]
 case round =>
  obtain ⟨k,cy,zs,hk,hcy0,hcy1,rfl,rfl,hown,hlz,hzz,hv,hb⟩ := hrel
  clear hown1 hb1 hi hz0 hz1 hz2
  rcases Nat.lt_or_ge k N with hkn | hkn
  ·have hki : (k : Int) < N := by omega
   have hNb : (N : Int) ≤ 1048576 := by omega
   have HU := hid (hzz.out k (Nat.le_refl _) hkn)
   obtain ⟨hgl,hcu,hfu⟩ := row_cell hown HU.out
   have hk1 : k + 1 ≤ N := hkn
   rcases Nat.lt_or_ge k n with hkl | hkl
   ·obtain ⟨b1,o1,x,rfl,hb1,hx1, _,hc1⟩ := Sl.getInt HX.out hkl
    have hxl := CX.out.get hx1
    have HX1 := hid hx1
    have hx0 := hxl.1; have hx1' := hxl.2
    have hc1' := (hb.cell (p := ⟨b1,o1 + k,none⟩) hb1).trans hc1
    have hb1' : b1 < wr.heap.size := by have := hb.size; omega
    clear hxl hx1 hc1 hb1
    have hkl' : (k : Int) < n := by omega
    obtain ⟨hp0,hp1⟩ := mul_lim hx0 hx1' (Int.le_of_lt hd0) hd1
    have E0 := hid (show 0 ≤ (cy + x * d) / 1000000000 by omega)
    have E1 := hid (show (cy + x * d) / 1000000000 < 1000000000 by omega)
    have L := hid (hlz.out.set k (u := (cy + x * d) % 1000000000) (by omega) (by omega))
    have Z := hid (show ∀ j,k + 1 ≤ j → j < N → (zs.set k ((cy + x * d) % 1000000000))[j]? = some 0 by
     intro j h1 h2; rw [List.getElem?_set_ne (by omega)]; exact hzz.out j (by omega) h2)
    have r := hid (show val (zs.set k ((cy + x * d) % 1000000000)) + pw (k + 1) * ((cy + x * d) / 1000000000) = val (xs.take (k + 1)) * d by
     rw [mul_step HU.out hv.out,val_take_step HX1.out]
     grind)
    have R := hid (row_set hown k ((cy + x * d) % 1000000000))
    have hb' := hid (hb.setCell (p := ⟨w.heap.size,k,none⟩) (Nat.le_refl _) (.int .i64 ((cy + x * d) % 1000000000)))
    clear hle hk
    go_wp2_with fail
    first
    | exact ⟨⟨k + 1,(cy + x * d) / 1000000000, _,hk1,E0.out,E1.out,rfl,rfl,R.out,L.out,Z.out,r.out,hb'.out⟩,meas_succ hkn⟩
    | exact ⟨by (repeat apply Exists.intro); exact ⟨⟨k + 1,(cy + x * d) / 1000000000, _,hk1,E0.out,E1.out,rfl,rfl,R.out,L.out,Z.out,r.out,hb'.out⟩,rfl⟩,meas_succ hkn⟩
   ·have hkl' : ¬ ((k : Int) < n) := by omega
    have E0 := hid (show 0 ≤ cy / 1000000000 by omega)
    have E1 := hid (show cy / 1000000000 < 1000000000 by omega)
    have L := hid (hlz.out.set k (u := cy % 1000000000) (by omega) (by omega))
    have Z := hid (show ∀ j,k + 1 ≤ j → j < N → (zs.set k (cy % 1000000000))[j]? = some 0 by
     intro j h1 h2; rw [List.getElem?_set_ne (by omega)]; exact hzz.out j (by omega) h2)
    have r := hid (show val (zs.set k (cy % 1000000000)) + pw (k + 1) * (cy / 1000000000) = val (xs.take (k + 1)) * d by
     have hxl : xs.length ≤ k := by rw [hlx.out]; exact hkl
     have h1 := hv.out
     rw [List.take_of_length_le hxl] at h1
     rw [mul_step HU.out h1,List.take_of_length_le (Nat.le_succ_of_le hxl)]
     grind)
    have R := hid (row_set hown k (cy % 1000000000))
    have hb' := hid (hb.setCell (p := ⟨w.heap.size,k,none⟩) (Nat.le_refl _) (.int .i64 (cy % 1000000000)))
    clear hle hk hkl
    go_wp2_with fail
    first
    | exact ⟨⟨k + 1,cy / 1000000000, _,hk1,E0.out,E1.out,rfl,rfl,R.out,L.out,Z.out,r.out,hb'.out⟩,meas_succ hkn⟩
    | exact ⟨by (repeat apply Exists.intro); exact ⟨⟨k + 1,cy / 1000000000, _,hk1,E0.out,E1.out,rfl,rfl,R.out,L.out,Z.out,r.out,hb'.out⟩,rfl⟩,meas_succ hkn⟩
  ·have hke : k = N := by omega
   subst hke
   have e := hid (show val zs = val xs * d by
    have h1 := hv.out
    rw [List.take_of_length_le (by rw [hlx.out]; exact hle)] at h1
    have h2 := val_nonneg hlz.out
    have h3 := pw_pos k
    have h4 := HV.out
    have : cy = 0 := by
     rcases Int.lt_or_le 0 cy with h | h
     ·have : pw k * 1 ≤ pw k * cy := Int.mul_le_mul_of_nonneg_left (by omega) (by omega)
      omega
     ·omega
    subst this; omega)
   have hki2 : ¬ ((k : Int) < k) := by omega
   have hzl := hid (row_len hown)
   clear hkn hk hle
   go_wp2
   go_ret
   exact ⟨zs,rfl,hzl.out,hlz.out,e.out,hown,hb⟩
end Go.Proofs.YtpfipnankjeokaaGreat.X
