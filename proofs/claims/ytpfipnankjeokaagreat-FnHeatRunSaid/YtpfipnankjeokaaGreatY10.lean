/- Part of a claim's proof: texts of this repository's wip,joined by prune.py,without the theorems that the claim does not reach. -/
import Derived.Test.YtpfipnankjeokaaGreatY8
import Derived.Test.YtpfipnankjeokaaGreatY2
set_option linter.constructorNameAsVariable false
namespace Go.Proofs.YtpfipnankjeokaaGreat.X
open Go.RowKit Go.XB Go.XN
attribute [local go_sem] fillBy opAt deps depOf Region.wanted yielded
attribute [local simp] deps depOf MP.eq MP.agg MP.sl Facts

set_option maxHeartbeats 1000000 in
theorem impl_copyRat (v : Value) (x : TRat) (b : List Nat) (w : World) (hx : Agg w v x b) (lx : x.num.mag.length ≤ 1048576) (ly : x.den.length ≤ 1048576) :
  Calls Tryz.prog 88 #[v] w (GivesAgg w x) := by
 obtain ⟨A1,n1,c1,s1,A2,n2,c2,s2,rfl,rfl,hs1,hs2⟩ := TRat.agg hx
 have H1 := hid hs1; have H2 := hid hs2
 have hn1 : n1 ≤ 1048576 := by rw [← hs1.1]; exact lx
 have hn2 : n2 ≤ 1048576 := by rw [← hs2.1]; exact ly
 clear hs1 hs2 hx lx ly
 go_enter Tryz.func88,Tryz.ntmps88
 go_wp2_with fail
 refine wp_region_last (by simp) (by kernel_rfl) (by kernel_rfl) (by kernel_rfl) (by kernel_rfl) ?_
 dsimp only [List.dropLast,List.getLast,List.length]
 iterate 6
  apply walkM_eq
  case h =>
   intro yq zq wq hC hd
   obtain ⟨hcq,hfq⟩ := bcell hC
   simp at hd
   refine ⟨by go_simp; done, ?_⟩
   go_simp
   first | (go_ints; exact rfl) | (go_ints; rw [if_pos (by omega)]; try exact rfl) | exact rfl | (rw [if_pos (by omega)]; try exact rfl)
 refine walkM_call (MP.sl x.num.mag) ?_ ?_
 ·intro yq zq wq hC hd
  obtain ⟨hcq,hfq⟩ := bcell hC
  simp at hd
  refine ⟨by go_simp; done, ?_⟩
  apply Exists.intro
  apply Exists.intro
  constructor
  ·go_simp
   exact ⟨rfl,rfl⟩
  ·exact gives_sl (clone_ints A1 n1 c1 x.num.mag _ wq (Sl.below H1.out Below.go) hn1)
 refine walkM_eqD (fun y' => .agg #[.bool x.num.neg,y' 6]) (by intro y y' h; simp [deps,depOf] at h; simp [h]) ?_ ?_
 ·intro yq zq wq hC hd
  obtain ⟨hcq,hfq⟩ := bcell hC
  simp at hd
  obtain ⟨_,⟨A,n,c,e, _⟩, _⟩ := hd
  refine ⟨by go_simp; done, ?_⟩
  go_simp
  try simp [*,Value.cells]
 iterate 2
  apply walkM_eq
  case h =>
   intro yq zq wq hC hd
   obtain ⟨hcq,hfq⟩ := bcell hC
   simp at hd
   refine ⟨by go_simp; done, ?_⟩
   go_simp
   first | (go_ints; exact rfl) | (go_ints; rw [if_pos (by omega)]; try exact rfl) | exact rfl | (rw [if_pos (by omega)]; try exact rfl)
 refine walkM_call (MP.sl x.den) ?_ ?_
 ·intro yq zq wq hC hd
  obtain ⟨hcq,hfq⟩ := bcell hC
  simp at hd
  refine ⟨by go_simp; done, ?_⟩
  apply Exists.intro
  apply Exists.intro
  constructor
  ·go_simp
   exact ⟨rfl,rfl⟩
  ·exact gives_sl (clone_ints A2 n2 c2 x.den _ wq (Sl.below H2.out Below.go) hn2)
 refine walkM_eqD (fun y' => .agg ((y' 7).cells ++ #[y' 10])) (by intro y y' h; simp [deps,depOf] at h; simp [h]) ?_ ?_
 ·intro yq zq wq hC hd
  obtain ⟨hcq,hfq⟩ := bcell hC
  simp at hd
  obtain ⟨⟨h7, _⟩,⟨A,n,c,e, _⟩, _⟩ := hd
  refine ⟨by go_simp; done, ?_⟩
  go_simp
  try simp [*,Value.cells]
 intro yq zq wa hC hd hdis0
 have hdis := hid hdis0
 clear hdis0
 simp at hd
 go_simp
 have q6 := hd.2.2.2.2.2.2.1
 have q7 := hd.2.2.2.2.2.2.2.1
 have q10 := hd.2.2.2.2.2.2.2.2.2.2.1
 have q11 := hd.2.2.2.2.2.2.2.2.2.2.2
 obtain ⟨⟨⟨B1,m1,d1,e6,hs1⟩,hf1⟩,hr1⟩ := q6
 obtain ⟨⟨⟨B2,m2,d2,e10,hs2⟩,hf2⟩,hr2⟩ := q10
 have e11 : yq 11 = .agg #[.bool x.num.neg, .slice B1 m1 d1, .slice B2 m2 d2] := by rw [q11.1.1,q7.1.1,e6,e10]; rfl
 have HS1 := hid hs1; have HF1 := hid hf1; have HR1 := hid hr1
 have HS2 := hid hs2; have HF2 := hid hf2; have HR2 := hid hr2
 have HDIS := hid (hdis.out 6 10 (by decide) (by decide) (by decide))
 clear hd hdis q7 q11 hs1 hf1 hr1 hs2 hf2 hr2
 obtain ⟨hc_wa,hf_wa⟩ := bcell hC
 have hz0_wa : w.heap.size < wa.heap.size := by have := hC.size; (try simp at this); omega
 have hz1_wa : w.heap.size + 1 < wa.heap.size := by have := hC.size; (try simp at this); omega
 go_wp2
 refine bodyPost_ret (v := .agg #[.bool x.num.neg, .slice B1 m1 d1, .slice B2 m2 d2]) (by simp [results,Tryz.results88,go_sem, *]) rfl ?_
 have f1 := fun (W : World) (ha : Above (w.heap.size + 2) wa W) => fin_own (w := w) HS1.out HF1.out (fun b hb => (HR1.out b hb).1) (by omega) ha
 have f2 := fun (W : World) (ha : Above (w.heap.size + 2) wa W) => fin_own (w := w) HS2.out HF2.out (fun b hb => (HR2.out b hb).1) (by omega) ha
 refine rat_fin (x := x) (f1 _ ?_) (f2 _ ?_) HDIS.out ?_
 ·exact Above.go
 ·exact Above.go
 ·exact Below.go

theorem u64_in {x : Int} (h0 : 0 ≤ x) (h1 : x ≤ 18446744073709551615) : IntKind.u64.wrap x = x := by simp [IntKind.wrap,IntKind.signed,IntKind.bits]; omega
theorem tdiv_dvd {a : Int} {g : Nat} (h : (g : Int) ∣ a) : a.tdiv g = a / g := by
 obtain ⟨q,rfl⟩ := h
 rcases Nat.eq_zero_or_pos g with h0 | h0
 ·subst h0; simp
 ·rw [Int.mul_tdiv_cancel_left _ (by omega),Int.mul_ediv_cancel_left _ (by omega)]
theorem div_bound {a M : Int} {g : Nat} (hg : 0 < g) (h : (g : Int) ∣ a) (h0 : -M ≤ a) (h1 : a ≤ M) : -M ≤ a / g ∧ a / g ≤ M := by
 obtain ⟨q,rfl⟩ := h
 rw [Int.mul_ediv_cancel_left _ (by omega)]
 have hg' : (1 : Int) ≤ g := by omega
 rcases Int.lt_or_le q 0 with hq | hq
 ·have : (g : Int) * q ≤ 1 * q := Int.mul_le_mul_of_nonpos_right hg' (by omega)
  omega
 ·have : 1 * q ≤ (g : Int) * q := Int.mul_le_mul_of_nonneg_right hg' hq
  omega
theorem mkR_small {n d : Int} (hd : 0 < d) (hn0 : -4000000000000000000 ≤ n) (hn1 : n ≤ 4000000000000000000) (hd1 : d ≤ 4000000000000000000) :
  mkR n d = ⟨encI (n / (Int.gcd n d : Nat)),dig (d / (Int.gcd n d : Nat)).toNat⟩ := by
 have hg := gcd_pos_right (a := n) hd
 have h1 := div_bound hg (Int.gcd_dvd_left n d) hn0 hn1
 have h2 := div_bound hg (Int.gcd_dvd_right n d) (show -4000000000000000000 ≤ d by omega) hd1
 have h3 : 0 ≤ d / (Int.gcd n d : Nat) := Int.ediv_nonneg (by omega) (by omega)
 have e : (d / (Int.gcd n d : Nat)).natAbs = (d / (Int.gcd n d : Nat)).toNat := by omega
 unfold mkR
 rw [e,if_pos]
 have p := pw_mono (show 3 ≤ 24 by decide)
 rw [pw_vals.2.2] at p
 exact ⟨dig_len (by omega),dig_len (by omega)⟩

set_option maxHeartbeats 2000000 in
theorem impl_ofInts (n d : Int) (w : World) (hd0 : 0 < d) (hn0 : -4000000000000000000 ≤ n) (hn1 : n ≤ 4000000000000000000) (hd1 : d ≤ 4000000000000000000) :
  Calls Tryz.prog 55 #[.int .i64 n, .int .i64 d] w (GivesAgg w (mkR n d)) := by
 have MK := hid (mkR_small hd0 hn0 hn1 hd1)
 have hg := gcd_pos_right (a := n) hd0
 have D1 := hid (Int.gcd_dvd_left n d)
 have D2 := hid (Int.gcd_dvd_right n d)
 have h1 := div_bound hg D1.out hn0 hn1
 have h2 := div_bound hg D2.out (show -4000000000000000000 ≤ d by omega) hd1
 have h3 : 0 ≤ d / (Int.gcd n d : Nat) := Int.ediv_nonneg (by omega) (by omega)
 have hgd : (Int.gcd n d : Int) ≤ d := Int.gcd_le_right n hd0
 obtain ⟨h1a,h1b⟩ := h1
 obtain ⟨h2a,h2b⟩ := h2
 rcases Int.lt_or_le n 0 with hneg | hneg
 ·have hm : n ≤ -n := by omega
  go_enter Tryz.func55,Tryz.ntmps55
  go_wp2_with fail
  have C := impl_gcd (-n) d (w.alloc (.cells #[.bool false, .slice none 0 0, .slice none 0 0] 32)) (by omega) (by omega) (by omega) (by omega)
  rw [Int.neg_gcd] at C
  refine C.mono ?_
  clear C
  rintro _ w1 ⟨rfl,hb1⟩
  generalize Int.gcd n d = g at *
  obtain ⟨hc_w1,hf_w1⟩ := bcell hb1
  have hz0_w1 : w.heap.size < w1.heap.size := by have := hb1.size; (try simp at this); omega
  go_wp2_with fail
  refine wp_region_last (by simp) (by kernel_rfl) (by kernel_rfl) (by kernel_rfl) (by kernel_rfl) ?_
  dsimp only [List.dropLast,List.getLast,List.length]
  iterate 2
   apply walkM_eq
   case h =>
    intro yq zq wq hC hd
    obtain ⟨hcq,hfq⟩ := bcell hC
    simp at hd
    refine ⟨by go_simp; done, ?_⟩
    go_simp
    first | (go_ints; exact rfl) | (go_ints; rw [if_pos (by omega)]; try exact rfl) | exact rfl | (rw [if_pos (by omega)]; try exact rfl)
  refine walkM_eq (Value.int .i64 (n / g)) ?_ ?_
  ·intro yq zq wq hC hd
   obtain ⟨hcq,hfq⟩ := bcell hC
   simp at hd
   refine ⟨by go_simp; done, ?_⟩
   go_simp
   (rw [if_neg (by omega)]; simp only [tdiv_dvd D1.out]; rw [IntWalk.i64_in _ (by omega)])
  refine walkM_call (MP.agg (encI (n / g))) ?_ ?_
  ·intro yq zq wq hC hd
   obtain ⟨hcq,hfq⟩ := bcell hC
   simp at hd
   refine ⟨by go_simp; done, ?_⟩
   apply Exists.intro
   apply Exists.intro
   constructor
   ·go_simp
    exact ⟨rfl,rfl⟩
   ·exact gives_agg (impl_BigIntOf (n / g) wq ⟨by omega,by omega⟩)
  iterate 2
   apply walkM_eq
   case h =>
    intro yq zq wq hC hd
    obtain ⟨hcq,hfq⟩ := bcell hC
    simp at hd
    refine ⟨by go_simp; done, ?_⟩
    go_simp
    first | (go_ints; exact rfl) | (go_ints; rw [if_pos (by omega)]; try exact rfl) | exact rfl | (rw [if_pos (by omega)]; try exact rfl)
  refine walkM_eq (Value.int .i64 (d / g)) ?_ ?_
  ·intro yq zq wq hC hd
   obtain ⟨hcq,hfq⟩ := bcell hC
   simp at hd
   refine ⟨by go_simp; done, ?_⟩
   go_simp
   (rw [if_neg (by omega)]; first | done | (simp only [tdiv_dvd D2.out]; first | done | rw [IntWalk.i64_in _ (by omega)]))
  refine walkM_eq (Value.int .u64 (d / g)) ?_ ?_
  ·intro yq zq wq hC hd
   obtain ⟨hcq,hfq⟩ := bcell hC
   simp at hd
   refine ⟨by go_simp; done, ?_⟩
   go_simp
   rw [u64_in h3 (by omega)]
  refine walkM_call (MP.sl (dig (d / g).toNat)) ?_ ?_
  ·intro yq zq wq hC hd
   obtain ⟨hcq,hfq⟩ := bcell hC
   simp at hd
   refine ⟨by go_simp; done, ?_⟩
   apply Exists.intro
   apply Exists.intro
   constructor
   ·go_simp
    exact ⟨rfl,rfl⟩
   ·exact gives_sl (impl_natOf (d / g) wq h3 (by omega))
  refine walkM_eqD (fun y' => .agg ((y' 3).cells ++ #[y' 8])) (by intro y y' h; simp [deps,depOf] at h; simp [h]) ?_ ?_
  ·intro yq zq wq hC hd
   obtain ⟨hcq,hfq⟩ := bcell hC
   simp at hd
   obtain ⟨⟨h3a, _⟩,⟨A,n,c,e, _⟩, _⟩ := hd
   obtain ⟨A',n',c',s',e', _, _⟩ := TBigInt.agg h3a
   refine ⟨by go_simp; done, ?_⟩
   go_simp
   try simp [*,Value.cells]
  intro yq zq wa hC hd hdis0
  have hdis := hid hdis0
  clear hdis0
  simp at hd
  have q3 := hd.2.2.2.1
  have q8 := hd.2.2.2.2.2.2.2.2.1
  have q9 := hd.2.2.2.2.2.2.2.2.2
  obtain ⟨⟨ha3,hf1⟩,hr1⟩ := q3
  obtain ⟨B1,m1,d1,s1,e3,hz3,hs1⟩ := TBigInt.agg ha3
  obtain ⟨⟨⟨B2,m2,d2,e8,hs2⟩,hf2⟩,hr2⟩ := q8
  have e9 : yq 9 = .agg #[.bool (encI (n / g)).neg, .slice B1 m1 d1, .slice B2 m2 d2] := by rw [q9.1.1,e3,e8]; rfl
  have HDIS := hid (hdis.out 3 8 (by decide) (by decide) (by decide))
  rw [hz3] at HDIS hf1 hr1
  have HS1 := hid hs1; have HF1 := hid hf1; have HR1 := hid hr1
  have HS2 := hid hs2; have HF2 := hid hf2; have HR2 := hid hr2
  clear hd hdis q9 hs1 hf1 hr1 hs2 hf2 hr2 ha3 hz3
  obtain ⟨hc_wa,hf_wa⟩ := bcell hC
  have hz0_wa : w.heap.size < wa.heap.size := by have := hC.size; (try simp at this); omega
  go_wp2
  refine bodyPost_ret (v := .agg #[.bool (encI (n / g)).neg, .slice B1 m1 d1, .slice B2 m2 d2]) (by simp [results,Tryz.results55,go_sem, *]) rfl ?_
  have f1 := fun (W : World) (ha : Above (w.heap.size + 1) wa W) => fin_own (w := w) HS1.out HF1.out (fun b hb => by have := (HR1.out b hb).1; omega) (by omega) ha
  have f2 := fun (W : World) (ha : Above (w.heap.size + 1) wa W) => fin_own (w := w) HS2.out HF2.out (fun b hb => by have := (HR2.out b hb).1; omega) (by omega) ha
  rw [MK.out]
  refine rat_fin (x := ⟨encI (n / g),dig (d / g).toNat⟩) (f1 _ ?_) (f2 _ ?_) HDIS.out ?_
  ·exact Above.go
  ·exact Above.go
  ·exact Below.go
 ·have hm : -n ≤ n := by omega
  go_enter Tryz.func55,Tryz.ntmps55
  go_wp2_with fail
  have C := impl_gcd n d (w.alloc (.cells #[.bool false, .slice none 0 0, .slice none 0 0] 32)) (by omega) (by omega) (by omega) (by omega)
  refine C.mono ?_
  clear C
  rintro _ w1 ⟨rfl,hb1⟩
  generalize Int.gcd n d = g at *
  obtain ⟨hc_w1,hf_w1⟩ := bcell hb1
  have hz0_w1 : w.heap.size < w1.heap.size := by have := hb1.size; (try simp at this); omega
  go_wp2_with fail
  refine wp_region_last (by simp) (by kernel_rfl) (by kernel_rfl) (by kernel_rfl) (by kernel_rfl) ?_
  dsimp only [List.dropLast,List.getLast,List.length]
  iterate 2
   apply walkM_eq
   case h =>
    intro yq zq wq hC hd
    obtain ⟨hcq,hfq⟩ := bcell hC
    simp at hd
    refine ⟨by go_simp; done, ?_⟩
    go_simp
    first | (go_ints; exact rfl) | (go_ints; rw [if_pos (by omega)]; try exact rfl) | exact rfl | (rw [if_pos (by omega)]; try exact rfl)
  refine walkM_eq (Value.int .i64 (n / g)) ?_ ?_
  ·intro yq zq wq hC hd
   obtain ⟨hcq,hfq⟩ := bcell hC
   simp at hd
   refine ⟨by go_simp; done, ?_⟩
   go_simp
   (rw [if_neg (by omega)]; simp only [tdiv_dvd D1.out]; rw [IntWalk.i64_in _ (by omega)])
  refine walkM_call (MP.agg (encI (n / g))) ?_ ?_
  ·intro yq zq wq hC hd
   obtain ⟨hcq,hfq⟩ := bcell hC
   simp at hd
   refine ⟨by go_simp; done, ?_⟩
   apply Exists.intro
   apply Exists.intro
   constructor
   ·go_simp
    exact ⟨rfl,rfl⟩
   ·exact gives_agg (impl_BigIntOf (n / g) wq ⟨by omega,by omega⟩)
  iterate 2
   apply walkM_eq
   case h =>
    intro yq zq wq hC hd
    obtain ⟨hcq,hfq⟩ := bcell hC
    simp at hd
    refine ⟨by go_simp; done, ?_⟩
    go_simp
    first | (go_ints; exact rfl) | (go_ints; rw [if_pos (by omega)]; try exact rfl) | exact rfl | (rw [if_pos (by omega)]; try exact rfl)
  refine walkM_eq (Value.int .i64 (d / g)) ?_ ?_
  ·intro yq zq wq hC hd
   obtain ⟨hcq,hfq⟩ := bcell hC
   simp at hd
   refine ⟨by go_simp; done, ?_⟩
   go_simp
   (rw [if_neg (by omega)]; first | done | (simp only [tdiv_dvd D2.out]; first | done | rw [IntWalk.i64_in _ (by omega)]))
  refine walkM_eq (Value.int .u64 (d / g)) ?_ ?_
  ·intro yq zq wq hC hd
   obtain ⟨hcq,hfq⟩ := bcell hC
   simp at hd
   refine ⟨by go_simp; done, ?_⟩
   go_simp
   rw [u64_in h3 (by omega)]
  refine walkM_call (MP.sl (dig (d / g).toNat)) ?_ ?_
  ·intro yq zq wq hC hd
   obtain ⟨hcq,hfq⟩ := bcell hC
   simp at hd
   refine ⟨by go_simp; done, ?_⟩
   apply Exists.intro
   apply Exists.intro
   constructor
   ·go_simp
    exact ⟨rfl,rfl⟩
   ·exact gives_sl (impl_natOf (d / g) wq h3 (by omega))
  refine walkM_eqD (fun y' => .agg ((y' 3).cells ++ #[y' 8])) (by intro y y' h; simp [deps,depOf] at h; simp [h]) ?_ ?_
  ·intro yq zq wq hC hd
   obtain ⟨hcq,hfq⟩ := bcell hC
   simp at hd
   obtain ⟨⟨h3a, _⟩,⟨A,n,c,e, _⟩, _⟩ := hd
   obtain ⟨A',n',c',s',e', _, _⟩ := TBigInt.agg h3a
   refine ⟨by go_simp; done, ?_⟩
   go_simp
   try simp [*,Value.cells]
  intro yq zq wa hC hd hdis0
  have hdis := hid hdis0
  clear hdis0
  simp at hd
  have q3 := hd.2.2.2.1
  have q8 := hd.2.2.2.2.2.2.2.2.1
  have q9 := hd.2.2.2.2.2.2.2.2.2
  obtain ⟨⟨ha3,hf1⟩,hr1⟩ := q3
  obtain ⟨B1,m1,d1,s1,e3,hz3,hs1⟩ := TBigInt.agg ha3
  obtain ⟨⟨⟨B2,m2,d2,e8,hs2⟩,hf2⟩,hr2⟩ := q8
  have e9 : yq 9 = .agg #[.bool (encI (n / g)).neg, .slice B1 m1 d1, .slice B2 m2 d2] := by rw [q9.1.1,e3,e8]; rfl
  have HDIS := hid (hdis.out 3 8 (by decide) (by decide) (by decide))
  rw [hz3] at HDIS hf1 hr1
  have HS1 := hid hs1; have HF1 := hid hf1; have HR1 := hid hr1
  have HS2 := hid hs2; have HF2 := hid hf2; have HR2 := hid hr2
  clear hd hdis q9 hs1 hf1 hr1 hs2 hf2 hr2 ha3 hz3
  obtain ⟨hc_wa,hf_wa⟩ := bcell hC
  have hz0_wa : w.heap.size < wa.heap.size := by have := hC.size; (try simp at this); omega
  go_wp2
  refine bodyPost_ret (v := .agg #[.bool (encI (n / g)).neg, .slice B1 m1 d1, .slice B2 m2 d2]) (by simp [results,Tryz.results55,go_sem, *]) rfl ?_
  have f1 := fun (W : World) (ha : Above (w.heap.size + 1) wa W) => fin_own (w := w) HS1.out HF1.out (fun b hb => by have := (HR1.out b hb).1; omega) (by omega) ha
  have f2 := fun (W : World) (ha : Above (w.heap.size + 1) wa W) => fin_own (w := w) HS2.out HF2.out (fun b hb => by have := (HR2.out b hb).1; omega) (by omega) ha
  rw [MK.out]
  refine rat_fin (x := ⟨encI (n / g),dig (d / g).toNat⟩) (f1 _ ?_) (f2 _ ?_) HDIS.out ?_
  ·exact Above.go
  ·exact Above.go
  ·exact Below.go
end Go.Proofs.YtpfipnankjeokaaGreat.X
namespace Go.Proofs.YtpfipnankjeokaaGreat.X
open Go.RowKit Go.XB Go.XN

theorem red_shared' {x : TBigInt} {ys : List Int} {A1 B : Option Addr} {n1 c1 m d : Nat} {b1 b2 : List Nat} {w : World} (hx : Sl w A1 n1 c1 x.mag b1) (hy : Sl w B m d ys b2) (cx : XN.Can x.mag) (cy : XN.Can ys) (hm0 : 0 < m) (lx : x.mag.length ≤ 65536) (ly : m ≤ 65536)
  (h1 : Int.gcd (val x.mag) (val ys) = 1) (h24 : x.mag.length ≤ 24) (d24 : m ≤ 24) :
  Calls Tryz.prog 56 #[.agg #[.bool x.neg, .slice A1 n1 c1], .slice B m d] w (Gives w (.agg #[.bool x.neg, .slice A1 n1 c1, .slice B m d])) := by
 obtain ⟨A,n,c,hv, _,C⟩ := red_shared (TBigInt.mkAgg (x := x) hx) hy cx cy hm0 lx ly h1 h24 d24
 cases hv
 exact C
def _root_.Go.XB.MP.sgd (s : Bool) (mag : List Int) (u : Value) : MP := ⟨fun v bs w => v = .agg #[.bool s,u] ∧ bs = [] ∧ ∃ A n c b',u = .slice A n c ∧ Sl w A n c mag b',fun _ _ _ _ hb h => ⟨h.1,h.2.1,by obtain ⟨A,n,c,b',e,hs⟩ := h.2.2; exact ⟨A,n,c,b',e,hs.below hb⟩⟩⟩
theorem gives_sgd {P : Program} {f : FuncId} {args : Array Value} {w : World} {s : Bool} {mag : List Int} {A : Option Addr} {n c : Nat} {b' : List Nat} (hs : Sl w A n c mag b') (h : Calls P f args w (Gives w (.agg #[.bool s, .slice A n c]))) :
  Calls P f args w fun e w' => ∃ u,e = .returned u ∧ Below w.heap.size w w' ∧ ∃ bs,(MP.sgd s mag (.slice A n c)).p u bs w' ∧ ∀ b ∈ bs,w.heap.size ≤ b ∧ b < w'.heap.size :=
 h.mono fun _ _ ⟨he,hb⟩ => ⟨_,he,hb, [],⟨rfl,rfl,A,n,c,b',rfl,hs.below hb⟩,fun b hb => by simp at hb⟩
theorem mkR_ok {X : TBigInt} {ys : List Int} (cx : XN.Can X.mag) (nx : NegOk X) (cy : XN.Can ys) (hy : 0 < val ys) (h1 : Int.gcd (val X.mag) (val ys) = 1) (h24 : X.mag.length ≤ 24) (d24 : ys.length ≤ 24) : mkR (ival X) (val ys) = ⟨X,ys⟩ := by
 rw [red_mk cx nx hy,h1,Int.natCast_one,Int.ediv_one,Int.ediv_one, ← cx.eq_dig, ← cy.eq_dig,if_pos ⟨h24,d24⟩]

attribute [local go_sem] fillBy opAt deps depOf Region.wanted yielded
attribute [local simp] deps depOf MP.eq MP.agg MP.sl MP.sgd Facts

theorem agg_fin {α : Type} [Dat α] {w u W : World} {lo : Nat} {v : Value} {x : α} {bs : List Nat} (h : Agg u v x bs) (hf : Free u bs) (hr : ∀ b ∈ bs,lo ≤ b) (hl : w.heap.size ≤ lo) (ha : Above lo u W) (hb : Below w.heap.size w W) : GivesAgg w x (.returned v) W :=
 have hk : ∀ g ∈ bs,W.heap[g]? = u.heap[g]? := fun g hg => ha.block g (hr g hg) (h.lt g hg)
 ⟨v,bs,rfl,h.keep hk,⟨hf.1,fun b hb => ⟨Nat.le_trans hl (hr b hb),by obtain ⟨cs,t,e⟩ := hf.2 b hb; exact ⟨cs,t,(hk b hb).trans e⟩⟩⟩,hb⟩
def signedBy (x y : TBigInt) : TBigInt := ⟨(x.neg != y.neg) && !x.mag.isEmpty,x.mag⟩
theorem signedBy_neg (x y : TBigInt) : NegOk (signedBy x y) := by
 intro h e
 have e' : x.mag = [] := e
 have h' : ((x.neg != y.neg) && !x.mag.isEmpty) = true := h
 rw [e'] at h'
 simp at h'

set_option maxHeartbeats 4000000 in
theorem impl_RatMake (v1 v2 : Value) (x y : TBigInt) (b1 b2 : List Nat) (w : World) (hx : Agg w v1 x b1) (hy : Agg w v2 y b2) (ox : bigOkB x = true) (oy : bigOkB y = true) (hy0 : y.mag ≠ []) :
  Calls Tryz.prog 65 #[v1,v2] w (GivesAgg w (mkR (ival (signedBy x y)) (val y.mag))) := by
 have HX := hid hx; have HY := hid hy
 obtain ⟨A1,n1,c1,s1,rfl,rfl,hs1⟩ := TBigInt.agg hx
 obtain ⟨A2,n2,c2,s2,rfl,rfl,hs2⟩ := TBigInt.agg hy
 have H1 := hid hs1; have H2 := hid hs2
 have CX := hid (bigOkB_iff.1 ox).1.2
 have CY := hid (bigOkB_iff.1 oy).1.2
 have LX : x.mag.length ≤ 60 := (bigOkB_iff.1 ox).1.1
 have LY : y.mag.length ≤ 60 := (bigOkB_iff.1 oy).1.1
 have hn2 : 0 < n2 := by rw [← hs2.1]; exact List.length_pos_iff.2 hy0
 have hn1 : n1 ≤ 60 := by rw [← hs1.1]; exact LX
 have hn2' : n2 ≤ 60 := by rw [← hs2.1]; exact LY
 have VY := hid (CY.out.pos hy0)
 have OX := hid ox; have OY := hid oy
 have SG := hid (show ((x.neg != y.neg) && decide (0 < n1)) = (signedBy x y).neg by
  unfold signedBy; rw [← hs1.1]; simp only; cases x.mag <;> simp)
 have hz : ((n2 : Int) == 0) = false := by simp; omega
 have NG := hid (signedBy_neg x y)
 have SM := hid (show (signedBy x y).mag = x.mag from rfl)
 have CS := hid (show XN.Can (signedBy x y).mag from CX.out)
 have LS := hid (show (signedBy x y).mag.length ≤ 65536 by show x.mag.length ≤ 65536; omega)
 clear hs1 hs2 hx hy ox oy hy0
 by_cases hsh : Int.gcd (val (signedBy x y).mag) (val y.mag) = 1 ∧ (signedBy x y).mag.length ≤ 24 ∧ y.mag.length ≤ 24
 ·have HS := hid hsh
  clear hsh
  go_enter Tryz.func65,Tryz.ntmps65
  go_wp2_with fail
  have C := impl_BigIntOk _ x _ (((w.alloc (.cells #[.bool x.neg, .slice A1 n1 c1] 30)).alloc (.cells #[.bool y.neg, .slice A2 n2 c2] 30)).alloc (.cells #[.bool false, .slice none 0 0, .slice none 0 0] 32)) (Agg.below HX.out Below.go)
  rw [OX.out] at C
  refine C.mono ?_
  clear C
  rintro _ w1 ⟨rfl,hb1⟩
  obtain ⟨hc_w1,hf_w1⟩ := bcell hb1
  have hz0_w1 : w.heap.size < w1.heap.size := by have := hb1.size; (try simp at this); omega
  have hz1_w1 : w.heap.size + 1 < w1.heap.size := by have := hb1.size; (try simp at this); omega
  have hz2_w1 : w.heap.size + 1 + 1 < w1.heap.size := by have := hb1.size; (try simp at this); omega
  go_wp2_with fail
  have C := impl_BigIntOk _ y _ w1 (Agg.below HY.out Below.go)
  rw [OY.out] at C
  refine C.mono ?_
  clear C
  rintro _ w2 ⟨rfl,hb2⟩
  obtain ⟨hc_w2,hf_w2⟩ := bcell hb2
  have hz0_w2 : w.heap.size < w2.heap.size := by have := hb2.size; (try simp at this); omega
  have hz1_w2 : w.heap.size + 1 < w2.heap.size := by have := hb2.size; (try simp at this); omega
  have hz2_w2 : w.heap.size + 1 + 1 < w2.heap.size := by have := hb2.size; (try simp at this); omega
  go_wp2_with fail
  refine wp_region_last (by simp) (by kernel_rfl) (by kernel_rfl) (by kernel_rfl) (by kernel_rfl) ?_
  dsimp only [List.dropLast,List.getLast,List.length]
  iterate 7
   apply walkM_eq
   case h =>
    intro yq zq wq hC hd
    obtain ⟨hcq,hfq⟩ := bcell hC
    simp at hd
    refine ⟨by go_simp; done, ?_⟩
    go_simp
    first | (go_ints; exact rfl) | (go_ints; rw [if_pos (by omega)]; try exact rfl) | exact rfl | (rw [if_pos (by omega)]; try exact rfl)
  refine walkM_call (MP.sl (signedBy x y).mag) ?_ ?_
  ·intro yq zq wq hC hd
   obtain ⟨hcq,hfq⟩ := bcell hC
   simp at hd
   refine ⟨by go_simp; done, ?_⟩
   apply Exists.intro
   apply Exists.intro
   constructor
   ·go_simp
    exact ⟨rfl,rfl⟩
   ·exact gives_sl (clone_ints A1 n1 c1 x.mag _ wq (Sl.below H1.out Below.go) (by omega))
  refine walkM_callD (fun y' => MP.sgd (signedBy x y).neg (signedBy x y).mag (y' 7)) (by intro y y' h; simp [deps,depOf] at h; simp [h]) ?_ ?_
  ·intro yq zq wq hC hd
   obtain ⟨hcq,hfq⟩ := bcell hC
   simp at hd
   refine ⟨by go_simp; done, ?_⟩
   apply Exists.intro
   apply Exists.intro
   constructor
   ·go_simp
    exact ⟨rfl,rfl⟩
   ·obtain ⟨_,⟨A,n,c,e,hs⟩, _⟩ := hd
    rw [e]
    have C := impl_signed (!(x.neg == y.neg)) A n c wq
    rw [show ((!(x.neg == y.neg)) && decide (0 < n)) = (signedBy x y).neg by rw [← SG.out, ← hs.1, ← H1.out.1]; rfl] at C
    exact gives_sgd hs C
  iterate 2
   apply walkM_eq
   case h =>
    intro yq zq wq hC hd
    obtain ⟨hcq,hfq⟩ := bcell hC
    simp at hd
    refine ⟨by go_simp; done, ?_⟩
    go_simp
    first | (go_ints; exact rfl) | (go_ints; rw [if_pos (by omega)]; try exact rfl) | exact rfl | (rw [if_pos (by omega)]; try exact rfl)
  refine walkM_call (MP.sl y.mag) ?_ ?_
  ·intro yq zq wq hC hd
   obtain ⟨hcq,hfq⟩ := bcell hC
   simp at hd
   refine ⟨by go_simp; done, ?_⟩
   apply Exists.intro
   apply Exists.intro
   constructor
   ·go_simp
    exact ⟨rfl,rfl⟩
   ·exact gives_sl (clone_ints A2 n2 c2 y.mag _ wq (Sl.below H2.out Below.go) (by omega))
  refine walkM_callD (fun y' => MP.eq (.agg ((y' 8).cells ++ #[y' 11]))) (by intro y y' h; simp [deps,depOf] at h; simp [h]) ?_ ?_
  ·intro yq zq wq hC hd
   obtain ⟨hcq,hfq⟩ := bcell hC
   simp at hd
   refine ⟨by go_simp; done, ?_⟩
   apply Exists.intro
   apply Exists.intro
   constructor
   ·go_simp
    exact ⟨rfl,rfl⟩
   ·obtain ⟨⟨h8, _,A,n,c,e7,b',hs⟩,⟨A',n',c',e11,hs2⟩, _⟩ := hd
    first | rw [h8,e7,e11] | rw [e7,e11]
    have hl := hs2.1
    exact gives_eq (red_shared' (x := signedBy x y) hs hs2 CS.out CY.out (by rw [← hl,H2.out.1]; exact hn2) LS.out (by omega) HS.out.1 HS.out.2.1 (by rw [← hl]; exact HS.out.2.2))
  intro yq zq wa hC hd hdis0
  have hdis := hid hdis0
  clear hdis0
  simp at hd
  have q7 := hd.2.2.2.2.2.2.2.1
  have q8 := hd.2.2.2.2.2.2.2.2.1
  have q11 := hd.2.2.2.2.2.2.2.2.2.2.2.1
  have q12 := hd.2.2.2.2.2.2.2.2.2.2.2.2
  obtain ⟨⟨⟨B1,m1,d1,e7,hs1⟩,hf1⟩,hr1⟩ := q7
  obtain ⟨⟨⟨B2,m2,d2,e11,hs2⟩,hf2⟩,hr2⟩ := q11
  have e12 : yq 12 = .agg #[.bool (signedBy x y).neg, .slice B1 m1 d1, .slice B2 m2 d2] := by rw [q12.1.1,q8.1.1,e7,e11]; rfl
  have HDIS := hid (hdis.out 7 11 (by decide) (by decide) (by decide))
  have HS1 := hid hs1; have HF1 := hid hf1; have HR1 := hid hr1
  have HS2 := hid hs2; have HF2 := hid hf2; have HR2 := hid hr2
  clear hd hdis q12 q8 hs1 hf1 hr1 hs2 hf2 hr2
  obtain ⟨hc_wa,hf_wa⟩ := bcell hC
  have hz0_wa : w.heap.size < wa.heap.size := by have := hC.size; (try simp at this); omega
  have hz1_wa : w.heap.size + 1 < wa.heap.size := by have := hC.size; (try simp at this); omega
  have hz2_wa : w.heap.size + 1 + 1 < wa.heap.size := by have := hC.size; (try simp at this); omega
  go_wp2
  refine bodyPost_ret (v := .agg #[.bool (signedBy x y).neg, .slice B1 m1 d1, .slice B2 m2 d2]) (by simp [results,Tryz.results65,go_sem, *]) rfl ?_
  rw [mkR_ok CS.out NG.out CY.out VY.out HS.out.1 HS.out.2.1 HS.out.2.2]
  have hw3 : w.heap.size + 3 ≤ w2.heap.size := by omega
  have f1 := fun (W : World) (ha : Above (w.heap.size + 3) wa W) => fin_own (w := w) HS1.out HF1.out (fun b hb => by have := (HR1.out b hb).1; omega) (by omega) ha
  have f2 := fun (W : World) (ha : Above (w.heap.size + 3) wa W) => fin_own (w := w) HS2.out HF2.out (fun b hb => by have := (HR2.out b hb).1; omega) (by omega) ha
  refine rat_fin (x := ⟨signedBy x y,y.mag⟩) (f1 _ ?_) (f2 _ ?_) HDIS.out ?_
  ·exact Above.go
  ·exact Above.go
  ·exact Below.go
 ·have HS := hid hsh
  clear hsh
  go_enter Tryz.func65,Tryz.ntmps65
  go_wp2_with fail
  have C := impl_BigIntOk _ x _ (((w.alloc (.cells #[.bool x.neg, .slice A1 n1 c1] 30)).alloc (.cells #[.bool y.neg, .slice A2 n2 c2] 30)).alloc (.cells #[.bool false, .slice none 0 0, .slice none 0 0] 32)) (Agg.below HX.out Below.go)
  rw [OX.out] at C
  refine C.mono ?_
  clear C
  rintro _ w1 ⟨rfl,hb1⟩
  obtain ⟨hc_w1,hf_w1⟩ := bcell hb1
  have hz0_w1 : w.heap.size < w1.heap.size := by have := hb1.size; (try simp at this); omega
  have hz1_w1 : w.heap.size + 1 < w1.heap.size := by have := hb1.size; (try simp at this); omega
  have hz2_w1 : w.heap.size + 1 + 1 < w1.heap.size := by have := hb1.size; (try simp at this); omega
  go_wp2_with fail
  have C := impl_BigIntOk _ y _ w1 (Agg.below HY.out Below.go)
  rw [OY.out] at C
  refine C.mono ?_
  clear C
  rintro _ w2 ⟨rfl,hb2⟩
  obtain ⟨hc_w2,hf_w2⟩ := bcell hb2
  have hz0_w2 : w.heap.size < w2.heap.size := by have := hb2.size; (try simp at this); omega
  have hz1_w2 : w.heap.size + 1 < w2.heap.size := by have := hb2.size; (try simp at this); omega
  have hz2_w2 : w.heap.size + 1 + 1 < w2.heap.size := by have := hb2.size; (try simp at this); omega
  go_wp2_with fail
  refine wp_region_last (by simp) (by kernel_rfl) (by kernel_rfl) (by kernel_rfl) (by kernel_rfl) ?_
  dsimp only [List.dropLast,List.getLast,List.length]
  iterate 7
   apply walkM_eq
   case h =>
    intro yq zq wq hC hd
    obtain ⟨hcq,hfq⟩ := bcell hC
    simp at hd
    refine ⟨by go_simp; done, ?_⟩
    go_simp
    first | (go_ints; exact rfl) | (go_ints; rw [if_pos (by omega)]; try exact rfl) | exact rfl | (rw [if_pos (by omega)]; try exact rfl)
  refine walkM_call (MP.sl (signedBy x y).mag) ?_ ?_
  ·intro yq zq wq hC hd
   obtain ⟨hcq,hfq⟩ := bcell hC
   simp at hd
   refine ⟨by go_simp; done, ?_⟩
   apply Exists.intro
   apply Exists.intro
   constructor
   ·go_simp
    exact ⟨rfl,rfl⟩
   ·exact gives_sl (clone_ints A1 n1 c1 x.mag _ wq (Sl.below H1.out Below.go) (by omega))
  refine walkM_callD (fun y' => MP.sgd (signedBy x y).neg (signedBy x y).mag (y' 7)) (by intro y y' h; simp [deps,depOf] at h; simp [h]) ?_ ?_
  ·intro yq zq wq hC hd
   obtain ⟨hcq,hfq⟩ := bcell hC
   simp at hd
   refine ⟨by go_simp; done, ?_⟩
   apply Exists.intro
   apply Exists.intro
   constructor
   ·go_simp
    exact ⟨rfl,rfl⟩
   ·obtain ⟨_,⟨A,n,c,e,hs⟩, _⟩ := hd
    rw [e]
    have C := impl_signed (!(x.neg == y.neg)) A n c wq
    rw [show ((!(x.neg == y.neg)) && decide (0 < n)) = (signedBy x y).neg by rw [← SG.out, ← hs.1, ← H1.out.1]; rfl] at C
    exact gives_sgd hs C
  iterate 2
   apply walkM_eq
   case h =>
    intro yq zq wq hC hd
    obtain ⟨hcq,hfq⟩ := bcell hC
    simp at hd
    refine ⟨by go_simp; done, ?_⟩
    go_simp
    first | (go_ints; exact rfl) | (go_ints; rw [if_pos (by omega)]; try exact rfl) | exact rfl | (rw [if_pos (by omega)]; try exact rfl)
  refine walkM_call (MP.sl y.mag) ?_ ?_
  ·intro yq zq wq hC hd
   obtain ⟨hcq,hfq⟩ := bcell hC
   simp at hd
   refine ⟨by go_simp; done, ?_⟩
   apply Exists.intro
   apply Exists.intro
   constructor
   ·go_simp
    exact ⟨rfl,rfl⟩
   ·exact gives_sl (clone_ints A2 n2 c2 y.mag _ wq (Sl.below H2.out Below.go) (by omega))
  refine walkM_call (MP.agg (mkR (ival (signedBy x y)) (val y.mag))) ?_ ?_
  ·intro yq zq wq hC hd
   obtain ⟨hcq,hfq⟩ := bcell hC
   simp at hd
   refine ⟨by go_simp; done, ?_⟩
   apply Exists.intro
   apply Exists.intro
   constructor
   ·go_simp
    exact ⟨rfl,rfl⟩
   ·obtain ⟨⟨h8, _,A,n,c,e7,b',hs⟩,⟨A',n',c',e11,hs2⟩, _⟩ := hd
    first | rw [h8,e7,e11] | rw [e7,e11]
    have hl := hs2.1
    exact gives_agg (red_new (TBigInt.mkAgg (x := signedBy x y) hs) hs2 CS.out CY.out (by rw [← hl,H2.out.1]; exact hn2) LS.out (by omega) NG.out (by rw [← hl]; exact HS.out))
  intro yq zq wa hC hd hdis0
  have hdis := hid hdis0
  clear hdis0
  simp at hd
  have q12 := hd.2.2.2.2.2.2.2.2.2.2.2.2
  obtain ⟨⟨ha,hf⟩,hr⟩ := q12
  obtain ⟨B1,m1,d1,t1,B2,m2,d2,t2,e12,hz,hs1,hs2⟩ := TRat.agg ha
  have HA := hid ha; have HF := hid hf; have HR := hid hr
  clear hd hdis hz hs1 hs2 ha hf hr
  obtain ⟨hc_wa,hf_wa⟩ := bcell hC
  have hz0_wa : w.heap.size < wa.heap.size := by have := hC.size; (try simp at this); omega
  have hz1_wa : w.heap.size + 1 < wa.heap.size := by have := hC.size; (try simp at this); omega
  have hz2_wa : w.heap.size + 1 + 1 < wa.heap.size := by have := hC.size; (try simp at this); omega
  go_wp2
  refine bodyPost_ret (v := .agg #[.bool (mkR (ival (signedBy x y)) (val y.mag)).num.neg, .slice B1 m1 d1, .slice B2 m2 d2]) (by simp [results,Tryz.results65,go_sem, *]) rfl ?_
  rw [e12] at HA
  refine agg_fin (lo := w.heap.size + 3) HA.out HF.out (fun b hb => by have := (HR.out b hb).1; omega) (by omega) ?_ ?_
  ·exact Above.go
  ·exact Below.go

theorem enc_ok (n : Int) (h : I64 n) : bigOkB (encI n) = true := by
 rw [bigOkB_iff]
 refine ⟨⟨?_,encI_can n⟩, ?_⟩
 ·have p := pw_mono (show 3 ≤ 60 by decide)
  rw [pw_vals.2.2] at p
  exact dig_len (by have := h.1; have := h.2; omega)
 ·intro hn
  unfold encI at hn ⊢
  simp at hn
  simp only [Ne,dig_nil]; omega
theorem signedBy_enc {n d : Int} (hd : 0 < d) : ival (signedBy (encI n) (encI d)) = n ∧ val (encI d).mag = d := by
 refine ⟨?_,by show val (dig d.natAbs) = d; rw [val_dig]; omega⟩
 have e : (encI d).neg = false := by unfold encI; simp; omega
 have h := enc_ival (x := signedBy (encI n) (encI d))
 unfold signedBy ival
 rw [e]
 show (if ((encI n).neg != false && !(dig n.natAbs).isEmpty) = true then -val (dig n.natAbs) else val (dig n.natAbs)) = n
 rw [val_dig]
 unfold encI
 by_cases h0 : n < 0
 ·have : dig n.natAbs ≠ [] := by rw [Ne,dig_nil]; omega
  rw [if_pos (by simp [h0,this])]; omega
 ·rw [if_neg (by simp [h0])]; omega

set_option maxHeartbeats 1000000 in
theorem impl_RatOf (n d : Int) (w : World) (hn : I64 n) (hd : I64 d) (h0 : 0 < d) : Calls Tryz.prog 22 #[.int .i64 n, .int .i64 d] w (GivesAgg w (mkR n d)) := by
 have HN := hid hn; have HD := hid hd
 have E := hid (signedBy_enc (n := n) h0)
 have E2 := hid (show (encI d).mag ≠ [] by intro e; have := E.out.2; rw [e] at this; simp [val] at this; omega)
 clear hn hd h0
 go_enter Tryz.func22,Tryz.ntmps22
 go_wp2_with fail
 refine (impl_BigIntOf n _ HN.out).mono ?_
 rintro _ w1 ⟨v1,t1,rfl,ha1,ho1,hb1⟩
 have HA1 := hid ha1
 clear ha1 ho1
 obtain ⟨hc_w1,hf_w1⟩ := bcell hb1
 have hz0_w1 : w.heap.size < w1.heap.size := by have := hb1.size; (try simp at this); omega
 go_wp2_with fail
 refine (impl_BigIntOf d _ HD.out).mono ?_
 rintro _ w2 ⟨v2,t2,rfl,ha2,ho2,hb2⟩
 have HA2 := hid ha2
 clear ha2 ho2
 obtain ⟨hc_w2,hf_w2⟩ := bcell hb2
 have hz0_w2 : w.heap.size < w2.heap.size := by have := hb2.size; (try simp at this); omega
 go_wp2_with fail
 refine (impl_RatMake v1 v2 (encI n) (encI d) t1 t2 w2 (Agg.below HA1.out hb2) HA2.out (enc_ok n HN.out) (enc_ok d HD.out) E2.out).mono ?_
 rw [E.out.1,E.out.2]
 rintro _ w3 ⟨v3,t3,rfl,ha3,ho3,hb3⟩
 obtain ⟨B1,m1,d1,t4,B2,m2,d2,t5,rfl,hz,hs1,hs2⟩ := TRat.agg ha3
 have HA3 := hid ha3; have HO3 := hid ho3
 clear hz hs1 hs2 ha3 ho3
 obtain ⟨hc_w3,hf_w3⟩ := bcell hb3
 have hz0_w3 : w.heap.size < w3.heap.size := by have := hb3.size; (try simp at this); omega
 go_wp2
 refine bodyPost_ret (v := .agg #[.bool (mkR n d).num.neg, .slice B1 m1 d1, .slice B2 m2 d2]) (by simp [results,Tryz.results22,go_sem, *]) rfl ?_
 refine agg_fin (lo := w.heap.size + 1) HA3.out HO3.out.free (fun b hb => by have := (HO3.out.2 b hb).1; omega) (by omega) ?_ ?_
 ·exact Above.go
 ·exact Below.go

theorem mkR_one (n : Int) (h : I64 n) : mkR n 1 = rint n := by
 unfold mkR rint
 rw [Int.gcd_one_right,Int.natCast_one,Int.ediv_one,Int.ediv_one,if_pos]
 ·rfl
 ·have p := pw_mono (show 3 ≤ 24 by decide)
  rw [pw_vals.2.2] at p
  exact ⟨dig_len (by have := h.1; have := h.2; omega),by decide⟩

set_option maxHeartbeats 1000000 in
theorem impl_RatFromInt (n : Int) (w : World) (hn : I64 n) : Calls Tryz.prog 64 #[.int .i64 n] w (GivesAgg w (rint n)) := by
 have HN := hid hn
 have E := hid (mkR_one n hn)
 clear hn
 go_enter Tryz.func64,Tryz.ntmps64
 go_wp2_with fail
 refine (impl_RatOf n 1 _ HN.out (by unfold I64; omega) (by decide)).mono ?_
 rw [E.out]
 rintro _ w1 ⟨v3,t3,rfl,ha3,ho3,hb3⟩
 obtain ⟨B1,m1,d1,t4,B2,m2,d2,t5,rfl,hz,hs1,hs2⟩ := TRat.agg ha3
 have HA3 := hid ha3; have HO3 := hid ho3
 clear hz hs1 hs2 ha3 ho3
 obtain ⟨hc_w1,hf_w1⟩ := bcell hb3
 have hz0_w1 : w.heap.size < w1.heap.size := by have := hb3.size; (try simp at this); omega
 go_wp2
 refine bodyPost_ret (v := .agg #[.bool (rint n).num.neg, .slice B1 m1 d1, .slice B2 m2 d2]) (by simp [results,Tryz.results64,go_sem, *]) rfl ?_
 refine agg_fin (lo := w.heap.size + 1) HA3.out HO3.out.free (fun b hb => by have := (HO3.out.2 b hb).1; simp at this; omega) (by omega) ?_ ?_
 ·exact Above.go
 ·exact Below.go
end Go.Proofs.YtpfipnankjeokaaGreat.X
namespace Go.Proofs.YtpfipnankjeokaaGreat.X
open Go.RowKit Go.XB Go.XN
attribute [local go_sem] fillBy opAt deps depOf Region.wanted yielded
attribute [local simp] deps depOf MP.eq MP.agg MP.sl MP.sgd MP.box Facts

section
variable {r s : TRat}
theorem _root_.Go.XN.RatV.lim (h : RatV r) (hs : smallB r = true) : (0 < denv r ∧ denv r < 1000000000) ∧ (-1000000000 < numv r ∧ numv r < 1000000000) := by
 unfold smallB at hs
 simp only [Bool.and_eq_true,decide_eq_true_eq] at hs
 exact ⟨⟨h.den0,(denv_small h.den hs.2).2⟩,numv_small h.mag.1 hs.1⟩
theorem mul_lim2 {a b : Int} (ha : -1000000000 < a ∧ a < 1000000000) (hb : -1000000000 < b ∧ b < 1000000000) : -1000000000000000000 ≤ a * b ∧ a * b ≤ 1000000000000000000 := by
 have h : (a * b).natAbs ≤ 1000000000 * 1000000000 := by rw [Int.natAbs_mul]; exact Nat.mul_le_mul (by omega) (by omega)
 omega
theorem len_mul {a b : Int} {m n : Nat} (ha : (a.natAbs : Int) < pw m) (hb : (b.natAbs : Int) < pw n) : ((a * b).natAbs : Int) < pw (m + n) := by
 rw [Int.natAbs_mul,pw_add,Int.natCast_mul]
 have h1 := pw_pos n
 rcases Nat.eq_zero_or_pos b.natAbs with h | h
 ·rw [h]; simp; exact Int.mul_pos (pw_pos m) h1
 ·have h2 : (a.natAbs : Int) * b.natAbs < pw m * b.natAbs := Int.mul_lt_mul_of_pos_right ha (by omega)
  have h3 : pw m * b.natAbs ≤ pw m * pw n := Int.mul_le_mul_of_nonneg_left (by omega) (Int.le_of_lt (pw_pos m))
  omega
theorem len_add {a b : Int} {m : Nat} (ha : (a.natAbs : Int) < pw m) (hb : (b.natAbs : Int) < pw m) : ((a + b).natAbs : Int) < pw (m + 1) := by
 rw [pw_succ]; omega
theorem enc_len {T : Int} {m : Nat} (h : (T.natAbs : Int) < pw m) : (encI T).mag.length ≤ m := dig_len h
theorem enc_negok (T : Int) : NegOk (encI T) := by
 intro h
 unfold encI at h ⊢
 simp only [decide_eq_true_eq] at h
 simp only [Ne,dig_nil]; omega
theorem _root_.Go.XN.RatV.numlt (h : RatV r) : ((numv r).natAbs : Int) < pw 24 := by
 have h1 := val_lt h.mag.1
 have h2 := pw_mono h.num24
 have h3 := val_nonneg h.mag.1
 unfold numv ival
 split <;> omega
theorem _root_.Go.XN.RatV.denlt (h : RatV r) : ((denv r).natAbs : Int) < pw 24 := by
 have h1 := val_lt h.den.1
 have h2 := pw_mono h.den24
 have h3 := h.den0
 unfold denv
 omega
structure DenD (D : Int) : Prop where
 can : XN.Can (dig D.toNat)
 v : val (dig D.toNat) = D
 pos : 0 < (dig D.toNat).length
 le : (dig D.toNat).length ≤ 65536
theorem _root_.Go.XN.RatV.denD (h : RatV r) (h' : RatV s) : DenD (denv r * denv s) := by
 have h0 : 0 < denv r * denv s := Int.mul_pos h.den0 h'.den0
 have h1 := len_mul h.denlt h'.denlt
 rw [show 24 + 24 = 48 from rfl] at h1
 refine ⟨dig_can _,by rw [val_dig]; omega,List.length_pos_iff.2 (by rw [Ne,dig_nil]; omega), ?_⟩
 have : (dig (denv r * denv s).toNat).length ≤ 48 := dig_len (by omega)
 omega
theorem ok_two {b : Bool} (h : (ratOkB r && ratOkB s) = b) : [r,s].all ratOkB = b := by rw [← h]; simp

end

set_option maxHeartbeats 4000000 in
theorem impl_RatMul (v1 v2 : Value) (r s : TRat) (b1 b2 : List Nat) (w : World) (hx : Agg w v1 r b1) (hy : Agg w v2 s b2) :
  Calls Tryz.prog 16 #[v1,v2] w (GivesAgg w (rmul r s)) := by
 have HX := hid hx; have HY := hid hy
 obtain ⟨A1,n1,c1,s1,A2,n2,c2,s2,rfl,rfl,hs1,hs2⟩ := TRat.agg hx
 obtain ⟨A3,n3,c3,s3,A4,n4,c4,s4,rfl,rfl,hs3,hs4⟩ := TRat.agg hy
 have H1 := hid hs1; have H2 := hid hs2; have H3 := hid hs3; have H4 := hid hs4
 clear hs1 hs2 hs3 hs4 hx hy
 cases hok : ratOkB r && ratOkB s
 ·have E := hid (show rmul r s = zeroR by unfold rmul; rw [hok]; rfl)
  have OK := hid (ok_two hok)
  clear hok
  go_enter Tryz.func16,Tryz.ntmps16
  go_wp2_with fail
  have C := impl_areRats (some ⟨w.heap.size + 1 + 1 + 1,0,none⟩) 2 2 [r,s] _ ((((w.alloc (.cells #[.bool r.num.neg, .slice A1 n1 c1, .slice A2 n2 c2] 32)).alloc (.cells #[.bool s.num.neg, .slice A3 n3 c3, .slice A4 n4 c4] 32)).alloc (.cells #[.bool false, .slice none 0 0, .slice none 0 0] 32)).alloc (.cells #[.bool r.num.neg, .slice A1 n1 c1, .slice A2 n2 c2, .bool s.num.neg, .slice A3 n3 c3, .slice A4 n4 c4] 32)) (sl_two (Agg.below HX.out Below.go) (Agg.below HY.out Below.go) (by simp) (by go_simp) (by go_simp) (by go_simp) (by go_simp) (by go_simp) (by go_simp))
  rw [OK.out] at C
  refine C.mono ?_
  clear C
  rintro _ w1 ⟨rfl,hb1⟩
  obtain ⟨hc_w1,hf_w1⟩ := bcell hb1
  have hz0_w1 : w.heap.size < w1.heap.size := by have := hb1.size; (try simp at this); omega
  have hz1_w1 : w.heap.size + 1 < w1.heap.size := by have := hb1.size; (try simp at this); omega
  have hz2_w1 : w.heap.size + 1 + 1 < w1.heap.size := by have := hb1.size; (try simp at this); omega
  have hz3_w1 : w.heap.size + 1 + 1 + 1 < w1.heap.size := by have := hb1.size; (try simp at this); omega
  go_wp2
  refine bodyPost_ret (v := .agg #[.bool false, .slice none 0 0, .slice none 0 0]) (by simp [results,Tryz.results16,go_sem, *]) rfl ?_
  rw [E.out]
  exact gives_zero Below.go
 ·have E := hid (show rmul r s = mkR (numv r * numv s) (denv r * denv s) by unfold rmul; rw [hok]; rfl)
  have OK := hid (ok_two hok)
  rw [Bool.and_eq_true] at hok
  have VR := hid (ratOkB_iff.1 hok.1); have VS := hid (ratOkB_iff.1 hok.2)
  have Vr := VR; have Vs := VS
  clear hok
  by_cases hsm : smallB r = true ∧ smallB s = true
  ·obtain ⟨sr,ss⟩ := hsm
   have lr := VR.out.lim sr
   have ls := VS.out.lim ss
   have Sr := hid sr; have Ss := hid ss
   clear sr ss
   obtain ⟨a,ea⟩ : ∃ a,numv r = a := ⟨_,rfl⟩
   obtain ⟨b,eb⟩ : ∃ b,denv r = b := ⟨_,rfl⟩
   obtain ⟨c,ec⟩ : ∃ c,numv s = c := ⟨_,rfl⟩
   obtain ⟨d,ed⟩ : ∃ d,denv s = d := ⟨_,rfl⟩
   rw [ea,eb,ec,ed] at E
   rw [ea,eb] at lr
   rw [ec,ed] at ls
   have EA := hid ea; have EB := hid eb; have EC := hid ec; have ED := hid ed
   clear ea eb ec ed
   obtain ⟨⟨kb0,kb1⟩,ka0,ka1⟩ := lr
   obtain ⟨⟨kd0,kd1⟩,kc0,kc1⟩ := ls
   obtain ⟨p0,p1⟩ := mul_lim2 (a := a) (b := c) ⟨ka0,ka1⟩ ⟨kc0,kc1⟩
   obtain ⟨_,p3⟩ := mul_lim2 (a := b) (b := d) ⟨by omega,kb1⟩ ⟨by omega,kd1⟩
   have p2 := Int.mul_pos kb0 kd0
   go_enter Tryz.func16,Tryz.ntmps16
   go_wp2_with fail
   have C := impl_areRats (some ⟨w.heap.size + 1 + 1 + 1,0,none⟩) 2 2 [r,s] _ ((((w.alloc (.cells #[.bool r.num.neg, .slice A1 n1 c1, .slice A2 n2 c2] 32)).alloc (.cells #[.bool s.num.neg, .slice A3 n3 c3, .slice A4 n4 c4] 32)).alloc (.cells #[.bool false, .slice none 0 0, .slice none 0 0] 32)).alloc (.cells #[.bool r.num.neg, .slice A1 n1 c1, .slice A2 n2 c2, .bool s.num.neg, .slice A3 n3 c3, .slice A4 n4 c4] 32)) (sl_two (Agg.below HX.out Below.go) (Agg.below HY.out Below.go) (by simp) (by go_simp) (by go_simp) (by go_simp) (by go_simp) (by go_simp) (by go_simp))
   rw [OK.out] at C
   refine C.mono ?_
   clear C
   rintro _ w1 ⟨rfl,hb1⟩
   obtain ⟨hc_w1,hf_w1⟩ := bcell hb1
   have hz0_w1 : w.heap.size < w1.heap.size := by have := hb1.size; (try simp at this); omega
   have hz1_w1 : w.heap.size + 1 < w1.heap.size := by have := hb1.size; (try simp at this); omega
   have hz2_w1 : w.heap.size + 1 + 1 < w1.heap.size := by have := hb1.size; (try simp at this); omega
   have hz3_w1 : w.heap.size + 1 + 1 + 1 < w1.heap.size := by have := hb1.size; (try simp at this); omega
   go_wp2_with fail
   have C := impl_isSmall _ r _ w1 (Agg.below HX.out Below.go)
   rw [Sr.out] at C
   refine C.mono ?_
   clear C
   rintro _ w2 ⟨rfl,hb2⟩
   obtain ⟨hc_w2,hf_w2⟩ := bcell hb2
   have hz0_w2 : w.heap.size < w2.heap.size := by have := hb2.size; (try simp at this); omega
   have hz1_w2 : w.heap.size + 1 < w2.heap.size := by have := hb2.size; (try simp at this); omega
   have hz2_w2 : w.heap.size + 1 + 1 < w2.heap.size := by have := hb2.size; (try simp at this); omega
   have hz3_w2 : w.heap.size + 1 + 1 + 1 < w2.heap.size := by have := hb2.size; (try simp at this); omega
   go_wp2_with fail
   have C := impl_isSmall _ s _ w2 (Agg.below HY.out Below.go)
   rw [Ss.out] at C
   refine C.mono ?_
   clear C
   rintro _ w3 ⟨rfl,hb3⟩
   obtain ⟨hc_w3,hf_w3⟩ := bcell hb3
   have hz0_w3 : w.heap.size < w3.heap.size := by have := hb3.size; (try simp at this); omega
   have hz1_w3 : w.heap.size + 1 < w3.heap.size := by have := hb3.size; (try simp at this); omega
   have hz2_w3 : w.heap.size + 1 + 1 < w3.heap.size := by have := hb3.size; (try simp at this); omega
   have hz3_w3 : w.heap.size + 1 + 1 + 1 < w3.heap.size := by have := hb3.size; (try simp at this); omega
   go_wp2_with fail
   have C := impl_small _ r _ w3 (Agg.below HX.out Below.go) Sr.out Vr.out.mag.1 (negOk_of Vr.out.num)
   rw [EA.out,EB.out] at C
   refine C.mono ?_
   clear C
   rintro _ w4 ⟨rfl,hb4⟩
   obtain ⟨hc_w4,hf_w4⟩ := bcell hb4
   have hz0_w4 : w.heap.size < w4.heap.size := by have := hb4.size; (try simp at this); omega
   have hz1_w4 : w.heap.size + 1 < w4.heap.size := by have := hb4.size; (try simp at this); omega
   have hz2_w4 : w.heap.size + 1 + 1 < w4.heap.size := by have := hb4.size; (try simp at this); omega
   have hz3_w4 : w.heap.size + 1 + 1 + 1 < w4.heap.size := by have := hb4.size; (try simp at this); omega
   go_wp2_with fail
   have C := impl_small _ s _ w4 (Agg.below HY.out Below.go) Ss.out Vs.out.mag.1 (negOk_of Vs.out.num)
   rw [EC.out,ED.out] at C
   refine C.mono ?_
   clear C
   rintro _ w5 ⟨rfl,hb5⟩
   obtain ⟨hc_w5,hf_w5⟩ := bcell hb5
   have hz0_w5 : w.heap.size < w5.heap.size := by have := hb5.size; (try simp at this); omega
   have hz1_w5 : w.heap.size + 1 < w5.heap.size := by have := hb5.size; (try simp at this); omega
   have hz2_w5 : w.heap.size + 1 + 1 < w5.heap.size := by have := hb5.size; (try simp at this); omega
   have hz3_w5 : w.heap.size + 1 + 1 + 1 < w5.heap.size := by have := hb5.size; (try simp at this); omega
   go_wp2_with fail
   refine (impl_ofInts (a * c) (b * d) w5 p2 (by omega) (by omega) (by omega)).mono ?_
   rintro _ w6 ⟨v,bs,rfl,ha,ho,hb⟩
   obtain ⟨B1,m1,d1,t1,B2,m2,d2,t2,rfl,hz,hs1,hs2⟩ := TRat.agg ha
   have HA := hid ha; have HO := hid ho
   clear hz hs1 hs2 ha ho
   obtain ⟨hc_w6,hf_w6⟩ := bcell hb
   have hz0_w6 : w.heap.size < w6.heap.size := by have := hb.size; (try simp at this); omega
   have hz1_w6 : w.heap.size + 1 < w6.heap.size := by have := hb.size; (try simp at this); omega
   have hz2_w6 : w.heap.size + 1 + 1 < w6.heap.size := by have := hb.size; (try simp at this); omega
   have hz3_w6 : w.heap.size + 1 + 1 + 1 < w6.heap.size := by have := hb.size; (try simp at this); omega
   go_wp2
   refine bodyPost_ret (v := .agg #[.bool (mkR (a * c) (b * d)).num.neg, .slice B1 m1 d1, .slice B2 m2 d2]) (by simp [results,Tryz.results16,go_sem, *]) rfl ?_
   rw [E.out]
   refine agg_fin (lo := w.heap.size + 4) HA.out HO.out.free (fun b hb => by have := (HO.out.2 b hb).1; (try simp at this); omega) (by omega) ?_ ?_
   ·exact Above.go
   ·exact Below.go
  ·have DD := hid (VR.out.denD VS.out)
   have LT := hid (show (encI (numv r * numv s)).mag.length ≤ 65536 from Nat.le_trans (enc_len (len_mul VR.out.numlt VS.out.numlt)) (by decide))
   by_cases hsh : Int.gcd (val (encI (numv r * numv s)).mag) (val (dig (denv r * denv s).toNat)) = 1 ∧ (encI (numv r * numv s)).mag.length ≤ 24 ∧ (dig (denv r * denv s).toNat).length ≤ 24
   ·have HS := hid hsh
    have MK := hid (show mkR (numv r * numv s) (denv r * denv s) = ⟨encI (numv r * numv s),dig (denv r * denv s).toNat⟩ by
     have := mkR_ok (X := encI (numv r * numv s)) (encI_can _) (enc_negok _) DD.out.can (by rw [DD.out.v]; exact Int.mul_pos VR.out.den0 VS.out.den0) hsh.1 hsh.2.1 hsh.2.2
     rwa [ival_enc,DD.out.v] at this)
    clear hsh
    cases hsr : smallB r
    ·have Sr := hid hsr
     clear hsr hsm
     go_enter Tryz.func16,Tryz.ntmps16
     go_wp2_with fail
     have C := impl_areRats (some ⟨w.heap.size + 1 + 1 + 1,0,none⟩) 2 2 [r,s] _ ((((w.alloc (.cells #[.bool r.num.neg, .slice A1 n1 c1, .slice A2 n2 c2] 32)).alloc (.cells #[.bool s.num.neg, .slice A3 n3 c3, .slice A4 n4 c4] 32)).alloc (.cells #[.bool false, .slice none 0 0, .slice none 0 0] 32)).alloc (.cells #[.bool r.num.neg, .slice A1 n1 c1, .slice A2 n2 c2, .bool s.num.neg, .slice A3 n3 c3, .slice A4 n4 c4] 32)) (sl_two (Agg.below HX.out Below.go) (Agg.below HY.out Below.go) (by simp) (by go_simp) (by go_simp) (by go_simp) (by go_simp) (by go_simp) (by go_simp))
     rw [OK.out] at C
     refine C.mono ?_
     clear C
     rintro _ w1 ⟨rfl,hb1⟩
     obtain ⟨hc_w1,hf_w1⟩ := bcell hb1
     have hz0_w1 : w.heap.size < w1.heap.size := by have := hb1.size; (try simp at this); omega
     have hz1_w1 : w.heap.size + 1 < w1.heap.size := by have := hb1.size; (try simp at this); omega
     have hz2_w1 : w.heap.size + 1 + 1 < w1.heap.size := by have := hb1.size; (try simp at this); omega
     have hz3_w1 : w.heap.size + 1 + 1 + 1 < w1.heap.size := by have := hb1.size; (try simp at this); omega
     go_wp2_with fail
     have C := impl_isSmall _ r _ w1 (Agg.below HX.out Below.go)
     rw [Sr.out] at C
     refine C.mono ?_
     clear C
     rintro _ w2 ⟨rfl,hb2⟩
     obtain ⟨hc_w2,hf_w2⟩ := bcell hb2
     have hz0_w2 : w.heap.size < w2.heap.size := by have := hb2.size; (try simp at this); omega
     have hz1_w2 : w.heap.size + 1 < w2.heap.size := by have := hb2.size; (try simp at this); omega
     have hz2_w2 : w.heap.size + 1 + 1 < w2.heap.size := by have := hb2.size; (try simp at this); omega
     have hz3_w2 : w.heap.size + 1 + 1 + 1 < w2.heap.size := by have := hb2.size; (try simp at this); omega
     go_wp2_with fail
     refine wp_region_last (by simp) (by kernel_rfl) (by kernel_rfl) (by kernel_rfl) (by kernel_rfl) ?_
     dsimp only [List.dropLast,List.getLast,List.length]
     iterate 4
      apply walkM_eq
      case h =>
       intro yq zq wq hC hd
       obtain ⟨hcq,hfq⟩ := bcell hC
       simp at hd
       refine ⟨by go_simp; done, ?_⟩
       go_simp
       first | (go_ints; exact rfl) | (go_ints; rw [if_pos (by omega)]; try exact rfl) | exact rfl | (rw [if_pos (by omega)]; try exact rfl)
     refine walkM_call (MP.agg (encI (numv r * numv s))) ?_ ?_
     ·intro yq zq wq hC hd
      obtain ⟨hcq,hfq⟩ := bcell hC
      simp at hd
      refine ⟨by go_simp; done, ?_⟩
      apply Exists.intro
      apply Exists.intro
      constructor
      ·go_simp
       exact ⟨rfl,rfl⟩
      ·exact gives_agg (impl_bigMul _ _ r.num s.num _ _ wq (TBigInt.mkAgg (Sl.below H1.out Below.go)) (TBigInt.mkAgg (Sl.below H3.out Below.go)) VR.out.mag.1 VS.out.mag.1 (Nat.le_trans VR.out.num24 (by decide)) (Nat.le_trans VS.out.num24 (by decide)))
     iterate 4
      apply walkM_eq
      case h =>
       intro yq zq wq hC hd
       obtain ⟨hcq,hfq⟩ := bcell hC
       simp at hd
       refine ⟨by go_simp; done, ?_⟩
       go_simp
       first | (go_ints; exact rfl) | (go_ints; rw [if_pos (by omega)]; try exact rfl) | exact rfl | (rw [if_pos (by omega)]; try exact rfl)
     refine walkM_call (MP.sl (dig (denv r * denv s).toNat)) ?_ ?_
     ·intro yq zq wq hC hd
      obtain ⟨hcq,hfq⟩ := bcell hC
      simp at hd
      refine ⟨by go_simp; done, ?_⟩
      apply Exists.intro
      apply Exists.intro
      constructor
      ·go_simp
       exact ⟨rfl,rfl⟩
      ·exact gives_sl (impl_natMul A2 A4 n2 n4 c2 c4 r.den s.den _ _ wq (Sl.below H2.out Below.go) (Sl.below H4.out Below.go) VR.out.den.1 VS.out.den.1 (by rw [← H2.out.1]; exact Nat.le_trans VR.out.den24 (by decide)) (by rw [← H4.out.1]; exact Nat.le_trans VS.out.den24 (by decide)))
     refine walkM_callD (fun y' => MP.eq (.agg ((y' 4).cells ++ #[y' 9]))) (by intro y y' h; simp [deps,depOf] at h; simp [h]) ?_ ?_
     ·intro yq zq wq hC hd
      obtain ⟨hcq,hfq⟩ := bcell hC
      simp at hd
      refine ⟨by go_simp; done, ?_⟩
      apply Exists.intro
      apply Exists.intro
      constructor
      ·go_simp
       exact ⟨rfl,rfl⟩
      ·obtain ⟨⟨ha, _⟩,⟨A',n',c',e9,hs2⟩, _⟩ := hd
       obtain ⟨B,m,d,t,e4, _,hs⟩ := TBigInt.agg ha
       rw [e4,e9]
       have hl := hs2.1
       exact gives_eq (red_shared' hs hs2 (encI_can _) DD.out.can (by rw [← hl]; exact DD.out.pos) LT.out (by rw [← hl]; exact DD.out.le) HS.out.1 HS.out.2.1 (by rw [← hl]; exact HS.out.2.2))
     intro yq zq wa hC hd hdis0
     have hdis := hid hdis0
     clear hdis0
     simp at hd
     have q4 := hd.2.2.2.2.1
     have q9 := hd.2.2.2.2.2.2.2.2.2.1
     have q10 := hd.2.2.2.2.2.2.2.2.2.2
     obtain ⟨⟨ha4,hf1⟩,hr1⟩ := q4
     obtain ⟨B1,m1,d1,t1,e4,hz4,hs1⟩ := TBigInt.agg ha4
     obtain ⟨⟨⟨B2,m2,d2,e9,hs2⟩,hf2⟩,hr2⟩ := q9
     have e10 : yq 10 = .agg #[.bool (encI (numv r * numv s)).neg, .slice B1 m1 d1, .slice B2 m2 d2] := by rw [q10.1.1,e4,e9]; rfl
     have HDIS := hid (hdis.out 4 9 (by decide) (by decide) (by decide))
     rw [hz4] at HDIS hf1 hr1
     have HS1 := hid hs1; have HF1 := hid hf1; have HR1 := hid hr1
     have HS2 := hid hs2; have HF2 := hid hf2; have HR2 := hid hr2
     clear hd hdis q10 hs1 hf1 hr1 hs2 hf2 hr2 ha4 hz4
     obtain ⟨hc_wa,hf_wa⟩ := bcell hC
     have hz0_wa : w.heap.size < wa.heap.size := by have := hC.size; (try simp at this); omega
     have hz1_wa : w.heap.size + 1 < wa.heap.size := by have := hC.size; (try simp at this); omega
     have hz2_wa : w.heap.size + 1 + 1 < wa.heap.size := by have := hC.size; (try simp at this); omega
     have hz3_wa : w.heap.size + 1 + 1 + 1 < wa.heap.size := by have := hC.size; (try simp at this); omega
     go_wp2
     refine bodyPost_ret (v := .agg #[.bool (encI (numv r * numv s)).neg, .slice B1 m1 d1, .slice B2 m2 d2]) (by simp [results,Tryz.results16,go_sem, *]) rfl ?_
     rw [E.out,MK.out]
     have f1 := fun (W : World) (ha : Above (w.heap.size + 4) wa W) => fin_own (w := w) HS1.out HF1.out (fun b hb => by have := (HR1.out b hb).1; omega) (by omega) ha
     have f2 := fun (W : World) (ha : Above (w.heap.size + 4) wa W) => fin_own (w := w) HS2.out HF2.out (fun b hb => by have := (HR2.out b hb).1; omega) (by omega) ha
     refine rat_fin (x := ⟨encI (numv r * numv s),dig (denv r * denv s).toNat⟩) (f1 _ ?_) (f2 _ ?_) HDIS.out ?_
     ·exact Above.go
     ·exact Above.go
     ·exact Below.go
    ·have Ss := hid (show smallB s = false by cases h : smallB s; rfl; exact absurd ⟨hsr,h⟩ hsm)
     have Sr := hid hsr
     clear hsr hsm
     go_enter Tryz.func16,Tryz.ntmps16
     go_wp2_with fail
     have C := impl_areRats (some ⟨w.heap.size + 1 + 1 + 1,0,none⟩) 2 2 [r,s] _ ((((w.alloc (.cells #[.bool r.num.neg, .slice A1 n1 c1, .slice A2 n2 c2] 32)).alloc (.cells #[.bool s.num.neg, .slice A3 n3 c3, .slice A4 n4 c4] 32)).alloc (.cells #[.bool false, .slice none 0 0, .slice none 0 0] 32)).alloc (.cells #[.bool r.num.neg, .slice A1 n1 c1, .slice A2 n2 c2, .bool s.num.neg, .slice A3 n3 c3, .slice A4 n4 c4] 32)) (sl_two (Agg.below HX.out Below.go) (Agg.below HY.out Below.go) (by simp) (by go_simp) (by go_simp) (by go_simp) (by go_simp) (by go_simp) (by go_simp))
     rw [OK.out] at C
     refine C.mono ?_
     clear C
     rintro _ w1 ⟨rfl,hb1⟩
     obtain ⟨hc_w1,hf_w1⟩ := bcell hb1
     have hz0_w1 : w.heap.size < w1.heap.size := by have := hb1.size; (try simp at this); omega
     have hz1_w1 : w.heap.size + 1 < w1.heap.size := by have := hb1.size; (try simp at this); omega
     have hz2_w1 : w.heap.size + 1 + 1 < w1.heap.size := by have := hb1.size; (try simp at this); omega
     have hz3_w1 : w.heap.size + 1 + 1 + 1 < w1.heap.size := by have := hb1.size; (try simp at this); omega
     go_wp2_with fail
     have C := impl_isSmall _ r _ w1 (Agg.below HX.out Below.go)
     rw [Sr.out] at C
     refine C.mono ?_
     clear C
     rintro _ w2 ⟨rfl,hb2⟩
     obtain ⟨hc_w2,hf_w2⟩ := bcell hb2
     have hz0_w2 : w.heap.size < w2.heap.size := by have := hb2.size; (try simp at this); omega
     have hz1_w2 : w.heap.size + 1 < w2.heap.size := by have := hb2.size; (try simp at this); omega
     have hz2_w2 : w.heap.size + 1 + 1 < w2.heap.size := by have := hb2.size; (try simp at this); omega
     have hz3_w2 : w.heap.size + 1 + 1 + 1 < w2.heap.size := by have := hb2.size; (try simp at this); omega
     go_wp2_with fail
     have C := impl_isSmall _ s _ w2 (Agg.below HY.out Below.go)
     rw [Ss.out] at C
     refine C.mono ?_
     clear C
     rintro _ w3 ⟨rfl,hb3⟩
     obtain ⟨hc_w3,hf_w3⟩ := bcell hb3
     have hz0_w3 : w.heap.size < w3.heap.size := by have := hb3.size; (try simp at this); omega
     have hz1_w3 : w.heap.size + 1 < w3.heap.size := by have := hb3.size; (try simp at this); omega
     have hz2_w3 : w.heap.size + 1 + 1 < w3.heap.size := by have := hb3.size; (try simp at this); omega
     have hz3_w3 : w.heap.size + 1 + 1 + 1 < w3.heap.size := by have := hb3.size; (try simp at this); omega
     go_wp2_with fail
     refine wp_region_last (by simp) (by kernel_rfl) (by kernel_rfl) (by kernel_rfl) (by kernel_rfl) ?_
     dsimp only [List.dropLast,List.getLast,List.length]
     iterate 4
      apply walkM_eq
      case h =>
       intro yq zq wq hC hd
       obtain ⟨hcq,hfq⟩ := bcell hC
       simp at hd
       refine ⟨by go_simp; done, ?_⟩
       go_simp
       first | (go_ints; exact rfl) | (go_ints; rw [if_pos (by omega)]; try exact rfl) | exact rfl | (rw [if_pos (by omega)]; try exact rfl)
     refine walkM_call (MP.agg (encI (numv r * numv s))) ?_ ?_
     ·intro yq zq wq hC hd
      obtain ⟨hcq,hfq⟩ := bcell hC
      simp at hd
      refine ⟨by go_simp; done, ?_⟩
      apply Exists.intro
      apply Exists.intro
      constructor
      ·go_simp
       exact ⟨rfl,rfl⟩
      ·exact gives_agg (impl_bigMul _ _ r.num s.num _ _ wq (TBigInt.mkAgg (Sl.below H1.out Below.go)) (TBigInt.mkAgg (Sl.below H3.out Below.go)) VR.out.mag.1 VS.out.mag.1 (Nat.le_trans VR.out.num24 (by decide)) (Nat.le_trans VS.out.num24 (by decide)))
     iterate 4
      apply walkM_eq
      case h =>
       intro yq zq wq hC hd
       obtain ⟨hcq,hfq⟩ := bcell hC
       simp at hd
       refine ⟨by go_simp; done, ?_⟩
       go_simp
       first | (go_ints; exact rfl) | (go_ints; rw [if_pos (by omega)]; try exact rfl) | exact rfl | (rw [if_pos (by omega)]; try exact rfl)
     refine walkM_call (MP.sl (dig (denv r * denv s).toNat)) ?_ ?_
     ·intro yq zq wq hC hd
      obtain ⟨hcq,hfq⟩ := bcell hC
      simp at hd
      refine ⟨by go_simp; done, ?_⟩
      apply Exists.intro
      apply Exists.intro
      constructor
      ·go_simp
       exact ⟨rfl,rfl⟩
      ·exact gives_sl (impl_natMul A2 A4 n2 n4 c2 c4 r.den s.den _ _ wq (Sl.below H2.out Below.go) (Sl.below H4.out Below.go) VR.out.den.1 VS.out.den.1 (by rw [← H2.out.1]; exact Nat.le_trans VR.out.den24 (by decide)) (by rw [← H4.out.1]; exact Nat.le_trans VS.out.den24 (by decide)))
     refine walkM_callD (fun y' => MP.eq (.agg ((y' 4).cells ++ #[y' 9]))) (by intro y y' h; simp [deps,depOf] at h; simp [h]) ?_ ?_
     ·intro yq zq wq hC hd
      obtain ⟨hcq,hfq⟩ := bcell hC
      simp at hd
      refine ⟨by go_simp; done, ?_⟩
      apply Exists.intro
      apply Exists.intro
      constructor
      ·go_simp
       exact ⟨rfl,rfl⟩
      ·obtain ⟨⟨ha, _⟩,⟨A',n',c',e9,hs2⟩, _⟩ := hd
       obtain ⟨B,m,d,t,e4, _,hs⟩ := TBigInt.agg ha
       rw [e4,e9]
       have hl := hs2.1
       exact gives_eq (red_shared' hs hs2 (encI_can _) DD.out.can (by rw [← hl]; exact DD.out.pos) LT.out (by rw [← hl]; exact DD.out.le) HS.out.1 HS.out.2.1 (by rw [← hl]; exact HS.out.2.2))
     intro yq zq wa hC hd hdis0
     have hdis := hid hdis0
     clear hdis0
     simp at hd
     have q4 := hd.2.2.2.2.1
     have q9 := hd.2.2.2.2.2.2.2.2.2.1
     have q10 := hd.2.2.2.2.2.2.2.2.2.2
     obtain ⟨⟨ha4,hf1⟩,hr1⟩ := q4
     obtain ⟨B1,m1,d1,t1,e4,hz4,hs1⟩ := TBigInt.agg ha4
     obtain ⟨⟨⟨B2,m2,d2,e9,hs2⟩,hf2⟩,hr2⟩ := q9
     have e10 : yq 10 = .agg #[.bool (encI (numv r * numv s)).neg, .slice B1 m1 d1, .slice B2 m2 d2] := by rw [q10.1.1,e4,e9]; rfl
     have HDIS := hid (hdis.out 4 9 (by decide) (by decide) (by decide))
     rw [hz4] at HDIS hf1 hr1
     have HS1 := hid hs1; have HF1 := hid hf1; have HR1 := hid hr1
     have HS2 := hid hs2; have HF2 := hid hf2; have HR2 := hid hr2
     clear hd hdis q10 hs1 hf1 hr1 hs2 hf2 hr2 ha4 hz4
     obtain ⟨hc_wa,hf_wa⟩ := bcell hC
     have hz0_wa : w.heap.size < wa.heap.size := by have := hC.size; (try simp at this); omega
     have hz1_wa : w.heap.size + 1 < wa.heap.size := by have := hC.size; (try simp at this); omega
     have hz2_wa : w.heap.size + 1 + 1 < wa.heap.size := by have := hC.size; (try simp at this); omega
     have hz3_wa : w.heap.size + 1 + 1 + 1 < wa.heap.size := by have := hC.size; (try simp at this); omega
     go_wp2
     refine bodyPost_ret (v := .agg #[.bool (encI (numv r * numv s)).neg, .slice B1 m1 d1, .slice B2 m2 d2]) (by simp [results,Tryz.results16,go_sem, *]) rfl ?_
     rw [E.out,MK.out]
     have f1 := fun (W : World) (ha : Above (w.heap.size + 4) wa W) => fin_own (w := w) HS1.out HF1.out (fun b hb => by have := (HR1.out b hb).1; omega) (by omega) ha
     have f2 := fun (W : World) (ha : Above (w.heap.size + 4) wa W) => fin_own (w := w) HS2.out HF2.out (fun b hb => by have := (HR2.out b hb).1; omega) (by omega) ha
     refine rat_fin (x := ⟨encI (numv r * numv s),dig (denv r * denv s).toNat⟩) (f1 _ ?_) (f2 _ ?_) HDIS.out ?_
     ·exact Above.go
     ·exact Above.go
     ·exact Below.go
   ·have HS := hid hsh
    clear hsh
    cases hsr : smallB r
    ·have Sr := hid hsr
     clear hsr hsm
     go_enter Tryz.func16,Tryz.ntmps16
     go_wp2_with fail
     have C := impl_areRats (some ⟨w.heap.size + 1 + 1 + 1,0,none⟩) 2 2 [r,s] _ ((((w.alloc (.cells #[.bool r.num.neg, .slice A1 n1 c1, .slice A2 n2 c2] 32)).alloc (.cells #[.bool s.num.neg, .slice A3 n3 c3, .slice A4 n4 c4] 32)).alloc (.cells #[.bool false, .slice none 0 0, .slice none 0 0] 32)).alloc (.cells #[.bool r.num.neg, .slice A1 n1 c1, .slice A2 n2 c2, .bool s.num.neg, .slice A3 n3 c3, .slice A4 n4 c4] 32)) (sl_two (Agg.below HX.out Below.go) (Agg.below HY.out Below.go) (by simp) (by go_simp) (by go_simp) (by go_simp) (by go_simp) (by go_simp) (by go_simp))
     rw [OK.out] at C
     refine C.mono ?_
     clear C
     rintro _ w1 ⟨rfl,hb1⟩
     obtain ⟨hc_w1,hf_w1⟩ := bcell hb1
     have hz0_w1 : w.heap.size < w1.heap.size := by have := hb1.size; (try simp at this); omega
     have hz1_w1 : w.heap.size + 1 < w1.heap.size := by have := hb1.size; (try simp at this); omega
     have hz2_w1 : w.heap.size + 1 + 1 < w1.heap.size := by have := hb1.size; (try simp at this); omega
     have hz3_w1 : w.heap.size + 1 + 1 + 1 < w1.heap.size := by have := hb1.size; (try simp at this); omega
     go_wp2_with fail
     have C := impl_isSmall _ r _ w1 (Agg.below HX.out Below.go)
     rw [Sr.out] at C
     refine C.mono ?_
     clear C
     rintro _ w2 ⟨rfl,hb2⟩
     obtain ⟨hc_w2,hf_w2⟩ := bcell hb2
     have hz0_w2 : w.heap.size < w2.heap.size := by have := hb2.size; (try simp at this); omega
     have hz1_w2 : w.heap.size + 1 < w2.heap.size := by have := hb2.size; (try simp at this); omega
     have hz2_w2 : w.heap.size + 1 + 1 < w2.heap.size := by have := hb2.size; (try simp at this); omega
     have hz3_w2 : w.heap.size + 1 + 1 + 1 < w2.heap.size := by have := hb2.size; (try simp at this); omega
     go_wp2_with fail
     refine wp_region_last (by simp) (by kernel_rfl) (by kernel_rfl) (by kernel_rfl) (by kernel_rfl) ?_
     dsimp only [List.dropLast,List.getLast,List.length]
     iterate 4
      apply walkM_eq
      case h =>
       intro yq zq wq hC hd
       obtain ⟨hcq,hfq⟩ := bcell hC
       simp at hd
       refine ⟨by go_simp; done, ?_⟩
       go_simp
       first | (go_ints; exact rfl) | (go_ints; rw [if_pos (by omega)]; try exact rfl) | exact rfl | (rw [if_pos (by omega)]; try exact rfl)
     refine walkM_call (MP.agg (encI (numv r * numv s))) ?_ ?_
     ·intro yq zq wq hC hd
      obtain ⟨hcq,hfq⟩ := bcell hC
      simp at hd
      refine ⟨by go_simp; done, ?_⟩
      apply Exists.intro
      apply Exists.intro
      constructor
      ·go_simp
       exact ⟨rfl,rfl⟩
      ·exact gives_agg (impl_bigMul _ _ r.num s.num _ _ wq (TBigInt.mkAgg (Sl.below H1.out Below.go)) (TBigInt.mkAgg (Sl.below H3.out Below.go)) VR.out.mag.1 VS.out.mag.1 (Nat.le_trans VR.out.num24 (by decide)) (Nat.le_trans VS.out.num24 (by decide)))
     iterate 4
      apply walkM_eq
      case h =>
       intro yq zq wq hC hd
       obtain ⟨hcq,hfq⟩ := bcell hC
       simp at hd
       refine ⟨by go_simp; done, ?_⟩
       go_simp
       first | (go_ints; exact rfl) | (go_ints; rw [if_pos (by omega)]; try exact rfl) | exact rfl | (rw [if_pos (by omega)]; try exact rfl)
     refine walkM_call (MP.sl (dig (denv r * denv s).toNat)) ?_ ?_
     ·intro yq zq wq hC hd
      obtain ⟨hcq,hfq⟩ := bcell hC
      simp at hd
      refine ⟨by go_simp; done, ?_⟩
      apply Exists.intro
      apply Exists.intro
      constructor
      ·go_simp
       exact ⟨rfl,rfl⟩
      ·exact gives_sl (impl_natMul A2 A4 n2 n4 c2 c4 r.den s.den _ _ wq (Sl.below H2.out Below.go) (Sl.below H4.out Below.go) VR.out.den.1 VS.out.den.1 (by rw [← H2.out.1]; exact Nat.le_trans VR.out.den24 (by decide)) (by rw [← H4.out.1]; exact Nat.le_trans VS.out.den24 (by decide)))
     refine walkM_call (MP.agg (mkR (numv r * numv s) (denv r * denv s))) ?_ ?_
     ·intro yq zq wq hC hd
      obtain ⟨hcq,hfq⟩ := bcell hC
      simp at hd
      refine ⟨by go_simp; done, ?_⟩
      apply Exists.intro
      apply Exists.intro
      constructor
      ·go_simp
       exact ⟨rfl,rfl⟩
      ·obtain ⟨⟨ha, _⟩,⟨A',n',c',e9,hs2⟩, _⟩ := hd
       rw [e9]
       have hl := hs2.1
       have C := red_new ha hs2 (encI_can _) DD.out.can (by rw [← hl]; exact DD.out.pos) LT.out (by rw [← hl]; exact DD.out.le) (enc_negok _) (by rw [← hl]; exact HS.out)
       rw [ival_enc,DD.out.v] at C
       exact gives_agg C
     intro yq zq wa hC hd hdis0
     have hdis := hid hdis0
     clear hdis0
     simp at hd
     have q10 := hd.2.2.2.2.2.2.2.2.2.2
     obtain ⟨⟨ha,hf⟩,hr⟩ := q10
     obtain ⟨B1,m1,d1,t1,B2,m2,d2,t2,e10,hz,hs1,hs2⟩ := TRat.agg ha
     have HA := hid ha; have HF := hid hf; have HR := hid hr
     clear hd hdis hz hs1 hs2 ha hf hr
     obtain ⟨hc_wa,hf_wa⟩ := bcell hC
     have hz0_wa : w.heap.size < wa.heap.size := by have := hC.size; (try simp at this); omega
     have hz1_wa : w.heap.size + 1 < wa.heap.size := by have := hC.size; (try simp at this); omega
     have hz2_wa : w.heap.size + 1 + 1 < wa.heap.size := by have := hC.size; (try simp at this); omega
     have hz3_wa : w.heap.size + 1 + 1 + 1 < wa.heap.size := by have := hC.size; (try simp at this); omega
     go_wp2
     refine bodyPost_ret (v := .agg #[.bool (mkR (numv r * numv s) (denv r * denv s)).num.neg, .slice B1 m1 d1, .slice B2 m2 d2]) (by simp [results,Tryz.results16,go_sem, *]) rfl ?_
     rw [E.out]
     rw [e10] at HA
     refine agg_fin (lo := w.heap.size + 4) HA.out HF.out (fun b hb => by have := (HR.out b hb).1; omega) (by omega) ?_ ?_
     ·exact Above.go
     ·exact Below.go
    ·have Ss := hid (show smallB s = false by cases h : smallB s; rfl; exact absurd ⟨hsr,h⟩ hsm)
     have Sr := hid hsr
     clear hsr hsm
     go_enter Tryz.func16,Tryz.ntmps16
     go_wp2_with fail
     have C := impl_areRats (some ⟨w.heap.size + 1 + 1 + 1,0,none⟩) 2 2 [r,s] _ ((((w.alloc (.cells #[.bool r.num.neg, .slice A1 n1 c1, .slice A2 n2 c2] 32)).alloc (.cells #[.bool s.num.neg, .slice A3 n3 c3, .slice A4 n4 c4] 32)).alloc (.cells #[.bool false, .slice none 0 0, .slice none 0 0] 32)).alloc (.cells #[.bool r.num.neg, .slice A1 n1 c1, .slice A2 n2 c2, .bool s.num.neg, .slice A3 n3 c3, .slice A4 n4 c4] 32)) (sl_two (Agg.below HX.out Below.go) (Agg.below HY.out Below.go) (by simp) (by go_simp) (by go_simp) (by go_simp) (by go_simp) (by go_simp) (by go_simp))
     rw [OK.out] at C
     refine C.mono ?_
     clear C
     rintro _ w1 ⟨rfl,hb1⟩
     obtain ⟨hc_w1,hf_w1⟩ := bcell hb1
     have hz0_w1 : w.heap.size < w1.heap.size := by have := hb1.size; (try simp at this); omega
     have hz1_w1 : w.heap.size + 1 < w1.heap.size := by have := hb1.size; (try simp at this); omega
     have hz2_w1 : w.heap.size + 1 + 1 < w1.heap.size := by have := hb1.size; (try simp at this); omega
     have hz3_w1 : w.heap.size + 1 + 1 + 1 < w1.heap.size := by have := hb1.size; (try simp at this); omega
     go_wp2_with fail
     have C := impl_isSmall _ r _ w1 (Agg.below HX.out Below.go)
     rw [Sr.out] at C
     refine C.mono ?_
     clear C
     rintro _ w2 ⟨rfl,hb2⟩
     obtain ⟨hc_w2,hf_w2⟩ := bcell hb2
     have hz0_w2 : w.heap.size < w2.heap.size := by have := hb2.size; (try simp at this); omega
     have hz1_w2 : w.heap.size + 1 < w2.heap.size := by have := hb2.size; (try simp at this); omega
     have hz2_w2 : w.heap.size + 1 + 1 < w2.heap.size := by have := hb2.size; (try simp at this); omega
     have hz3_w2 : w.heap.size + 1 + 1 + 1 < w2.heap.size := by have := hb2.size; (try simp at this); omega
     go_wp2_with fail
     have C := impl_isSmall _ s _ w2 (Agg.below HY.out Below.go)
     rw [Ss.out] at C
     refine C.mono ?_
     clear C
     rintro _ w3 ⟨rfl,hb3⟩
     obtain ⟨hc_w3,hf_w3⟩ := bcell hb3
     have hz0_w3 : w.heap.size < w3.heap.size := by have := hb3.size; (try simp at this); omega
     have hz1_w3 : w.heap.size + 1 < w3.heap.size := by have := hb3.size; (try simp at this); omega
     have hz2_w3 : w.heap.size + 1 + 1 < w3.heap.size := by have := hb3.size; (try simp at this); omega
     have hz3_w3 : w.heap.size + 1 + 1 + 1 < w3.heap.size := by have := hb3.size; (try simp at this); omega
     go_wp2_with fail
     refine wp_region_last (by simp) (by kernel_rfl) (by kernel_rfl) (by kernel_rfl) (by kernel_rfl) ?_
     dsimp only [List.dropLast,List.getLast,List.length]
     iterate 4
      apply walkM_eq
      case h =>
       intro yq zq wq hC hd
       obtain ⟨hcq,hfq⟩ := bcell hC
       simp at hd
       refine ⟨by go_simp; done, ?_⟩
       go_simp
       first | (go_ints; exact rfl) | (go_ints; rw [if_pos (by omega)]; try exact rfl) | exact rfl | (rw [if_pos (by omega)]; try exact rfl)
     refine walkM_call (MP.agg (encI (numv r * numv s))) ?_ ?_
     ·intro yq zq wq hC hd
      obtain ⟨hcq,hfq⟩ := bcell hC
      simp at hd
      refine ⟨by go_simp; done, ?_⟩
      apply Exists.intro
      apply Exists.intro
      constructor
      ·go_simp
       exact ⟨rfl,rfl⟩
      ·exact gives_agg (impl_bigMul _ _ r.num s.num _ _ wq (TBigInt.mkAgg (Sl.below H1.out Below.go)) (TBigInt.mkAgg (Sl.below H3.out Below.go)) VR.out.mag.1 VS.out.mag.1 (Nat.le_trans VR.out.num24 (by decide)) (Nat.le_trans VS.out.num24 (by decide)))
     iterate 4
      apply walkM_eq
      case h =>
       intro yq zq wq hC hd
       obtain ⟨hcq,hfq⟩ := bcell hC
       simp at hd
       refine ⟨by go_simp; done, ?_⟩
       go_simp
       first | (go_ints; exact rfl) | (go_ints; rw [if_pos (by omega)]; try exact rfl) | exact rfl | (rw [if_pos (by omega)]; try exact rfl)
     refine walkM_call (MP.sl (dig (denv r * denv s).toNat)) ?_ ?_
     ·intro yq zq wq hC hd
      obtain ⟨hcq,hfq⟩ := bcell hC
      simp at hd
      refine ⟨by go_simp; done, ?_⟩
      apply Exists.intro
      apply Exists.intro
      constructor
      ·go_simp
       exact ⟨rfl,rfl⟩
      ·exact gives_sl (impl_natMul A2 A4 n2 n4 c2 c4 r.den s.den _ _ wq (Sl.below H2.out Below.go) (Sl.below H4.out Below.go) VR.out.den.1 VS.out.den.1 (by rw [← H2.out.1]; exact Nat.le_trans VR.out.den24 (by decide)) (by rw [← H4.out.1]; exact Nat.le_trans VS.out.den24 (by decide)))
     refine walkM_call (MP.agg (mkR (numv r * numv s) (denv r * denv s))) ?_ ?_
     ·intro yq zq wq hC hd
      obtain ⟨hcq,hfq⟩ := bcell hC
      simp at hd
      refine ⟨by go_simp; done, ?_⟩
      apply Exists.intro
      apply Exists.intro
      constructor
      ·go_simp
       exact ⟨rfl,rfl⟩
      ·obtain ⟨⟨ha, _⟩,⟨A',n',c',e9,hs2⟩, _⟩ := hd
       rw [e9]
       have hl := hs2.1
       have C := red_new ha hs2 (encI_can _) DD.out.can (by rw [← hl]; exact DD.out.pos) LT.out (by rw [← hl]; exact DD.out.le) (enc_negok _) (by rw [← hl]; exact HS.out)
       rw [ival_enc,DD.out.v] at C
       exact gives_agg C
     intro yq zq wa hC hd hdis0
     have hdis := hid hdis0
     clear hdis0
     simp at hd
     have q10 := hd.2.2.2.2.2.2.2.2.2.2
     obtain ⟨⟨ha,hf⟩,hr⟩ := q10
     obtain ⟨B1,m1,d1,t1,B2,m2,d2,t2,e10,hz,hs1,hs2⟩ := TRat.agg ha
     have HA := hid ha; have HF := hid hf; have HR := hid hr
     clear hd hdis hz hs1 hs2 ha hf hr
     obtain ⟨hc_wa,hf_wa⟩ := bcell hC
     have hz0_wa : w.heap.size < wa.heap.size := by have := hC.size; (try simp at this); omega
     have hz1_wa : w.heap.size + 1 < wa.heap.size := by have := hC.size; (try simp at this); omega
     have hz2_wa : w.heap.size + 1 + 1 < wa.heap.size := by have := hC.size; (try simp at this); omega
     have hz3_wa : w.heap.size + 1 + 1 + 1 < wa.heap.size := by have := hC.size; (try simp at this); omega
     go_wp2
     refine bodyPost_ret (v := .agg #[.bool (mkR (numv r * numv s) (denv r * denv s)).num.neg, .slice B1 m1 d1, .slice B2 m2 d2]) (by simp [results,Tryz.results16,go_sem, *]) rfl ?_
     rw [E.out]
     rw [e10] at HA
     refine agg_fin (lo := w.heap.size + 4) HA.out HF.out (fun b hb => by have := (HR.out b hb).1; omega) (by omega) ?_ ?_
     ·exact Above.go
     ·exact Below.go
end Go.Proofs.YtpfipnankjeokaaGreat.X
namespace Go.Proofs.YtpfipnankjeokaaGreat.X
open Go.RowKit Go.XB Go.XN
attribute [local go_sem] fillBy opAt deps depOf Region.wanted yielded
attribute [local simp] deps depOf MP.eq MP.agg MP.sl MP.sgd MP.box Facts

def _root_.Go.XB.MP.aggS {α : Type} [Dat α] (x : α) : MP := ⟨fun v bs w => bs = [] ∧ ∃ s,Agg w v x s,fun _ _ _ _ hb h => ⟨h.1,by obtain ⟨s,hs⟩ := h.2; exact ⟨s,hs.below hb⟩⟩⟩
def GivesS {α : Type} [Dat α] (w : World) (x : α) (e : Ending) (w' : World) : Prop := ∃ v s,e = .returned v ∧ Agg w' v x s ∧ Below w.heap.size w w'
theorem gives_aggS {α : Type} [Dat α] {P : Program} {f : FuncId} {args : Array Value} {w : World} {x : α} (h : Calls P f args w (GivesS w x)) :
  Calls P f args w fun e w' => ∃ u,e = .returned u ∧ Below w.heap.size w w' ∧ ∃ bs,(MP.aggS x).p u bs w' ∧ ∀ b ∈ bs,w.heap.size ≤ b ∧ b < w'.heap.size :=
 h.mono fun _ _ ⟨v,s,he,ha,hb⟩ => ⟨v,he,hb, [],⟨rfl,s,ha⟩,fun b hb => by simp at hb⟩
attribute [local simp] MP.aggS

theorem den_big {r : TRat} {W : World} {A : Option Addr} {n c : Nat} {b : List Nat} (h : Sl W A n c r.den b) : Agg W (.agg #[.bool false, .slice A n c]) (⟨false,r.den⟩ : TBigInt) b ∧ ival ⟨false,r.den⟩ = denv r :=
 ⟨TBigInt.mkAgg (x := ⟨false,r.den⟩) h,by unfold ival denv; simp⟩

theorem neg_enc {x : TBigInt} (h : bigOkB x = true) : encI (-ival x) = ⟨!x.neg && !x.mag.isEmpty,x.mag⟩ := by
 have hc := (bigOkB_iff.1 h).1.2
 have := sign_enc (neg := !x.neg) hc (v := -ival x) (by unfold ival; cases x.neg <;> simp)
 exact this.symm
set_option maxHeartbeats 1000000 in
theorem impl_negative (v : Value) (x : TRat) (b : List Nat) (w : World) (hx : Agg w v x b) (ok : bigOkB x.num = true) :
  Calls Tryz.prog 92 #[v] w (GivesS w (⟨encI (-numv x),x.den⟩ : TRat)) := by
 obtain ⟨A1,n1,c1,s1,A2,n2,c2,s2,rfl,rfl,hs1,hs2⟩ := TRat.agg hx
 have H1 := hid hs1; have H2 := hid hs2
 have E := hid (show encI (-numv x) = ⟨!x.num.neg && decide (0 < n1),x.num.mag⟩ by
  unfold numv; rw [neg_enc ok, ← hs1.1]; cases x.num.mag <;> simp)
 clear hs1 hs2 hx
 go_enter Tryz.func92,Tryz.ntmps92
 go_wp2_with fail
 refine wp_region_last (by simp) (by kernel_rfl) (by kernel_rfl) (by kernel_rfl) (by kernel_rfl) ?_
 dsimp only [List.dropLast,List.getLast,List.length]
 iterate 7
  apply walkM_eq
  case h =>
   intro yq zq wq hC hd
   obtain ⟨hcq,hfq⟩ := bcell hC
   simp at hd
   refine ⟨by go_simp; done, ?_⟩
   go_simp
   first | (go_ints; exact rfl) | (go_ints; rw [if_pos (by omega)]; try exact rfl) | exact rfl | (rw [if_pos (by omega)]; try exact rfl)
 refine walkM_call (MP.eq (.agg #[.bool (!x.num.neg && decide (0 < n1)), .slice A1 n1 c1])) ?_ ?_
 ·intro yq zq wq hC hd
  obtain ⟨hcq,hfq⟩ := bcell hC
  simp at hd
  refine ⟨by go_simp; done, ?_⟩
  apply Exists.intro
  apply Exists.intro
  constructor
  ·go_simp
   exact ⟨rfl,rfl⟩
  ·exact gives_eq (impl_signed (!x.num.neg) A1 n1 c1 wq)
 iterate 3
  apply walkM_eq
  case h =>
   intro yq zq wq hC hd
   obtain ⟨hcq,hfq⟩ := bcell hC
   simp at hd
   refine ⟨by go_simp; done, ?_⟩
   go_simp
   first | (go_ints; exact rfl) | (go_ints; rw [if_pos (by omega)]; try exact rfl) | exact rfl | (rw [if_pos (by omega)]; try exact rfl)
 intro yq zq wa hC hd hdis0
 have hdis := hid hdis0
 clear hdis0
 simp at hd
 go_simp
 clear hd hdis
 obtain ⟨hc_wa,hf_wa⟩ := bcell hC
 have hz0_wa : w.heap.size < wa.heap.size := by have := hC.size; (try simp at this); omega
 have hz1_wa : w.heap.size + 1 < wa.heap.size := by have := hC.size; (try simp at this); omega
 go_wp2
 refine bodyPost_ret (v := .agg #[.bool (!x.num.neg && decide (0 < n1)), .slice A1 n1 c1, .slice A2 n2 c2]) (by simp [results,Tryz.results92,go_sem, *]) rfl ?_
 refine ⟨_,s1 ++ s2,rfl, ?_,Below.go⟩
 rw [E.out]
 exact TRat.mkAgg (x := ⟨⟨!x.num.neg && decide (0 < n1),x.num.mag⟩,x.den⟩) (Sl.below H1.out Below.go) (Sl.below H2.out Below.go)
end Go.Proofs.YtpfipnankjeokaaGreat.X
namespace Go.Proofs.YtpfipnankjeokaaGreat.X
open Go.RowKit Go.XB Go.XN
attribute [local go_sem] fillBy opAt deps depOf Region.wanted yielded
attribute [local simp] deps depOf MP.eq MP.agg MP.sl MP.sgd MP.box MP.aggS Facts

theorem keep_sl {α : Type} [Dat α] {w : World} {g : Nat} {A : Option Addr} {n c : Nat} {xs : List α} {bs : List Nat} (h : Sl w A n c xs bs) (hf : Free w bs) (hg : ∀ b ∈ bs,b ≠ g) (u0 u1 : Value) :
  Sl ((w.setCell ⟨g,0,none⟩ u0).setCell ⟨g,1,none⟩ u1) A n c xs bs ∧ Free ((w.setCell ⟨g,0,none⟩ u0).setCell ⟨g,1,none⟩ u1) bs :=
 have hk : ∀ b ∈ bs,((w.setCell ⟨g,0,none⟩ u0).setCell ⟨g,1,none⟩ u1).heap[b]? = w.heap[b]? := fun b hb =>
  (Below.heap_setCell _ ⟨g,1,none⟩ u1 b (hg b hb)).trans (Below.heap_setCell w ⟨g,0,none⟩ u0 b (hg b hb))
 ⟨h.keep hk,hf.1,fun b hb => by obtain ⟨cs,t,e⟩ := hf.2 b hb; exact ⟨cs,t,(hk b hb).trans e⟩⟩

set_option maxHeartbeats 8000000 in
theorem impl_plus (v1 v2 : Value) (r s : TRat) (b1 b2 : List Nat) (w : World) (hx : Agg w v1 r b1) (hy : Agg w v2 s b2) (vr : RatV r) (vs : RatV s) :
  Calls Tryz.prog 106 #[v1,v2] w (GivesAgg w (mkR (numv r * denv s + numv s * denv r) (denv r * denv s))) := by
 have HX := hid hx; have HY := hid hy
 obtain ⟨A1,n1,c1,s1,A2,n2,c2,s2,rfl,rfl,hs1,hs2⟩ := TRat.agg hx
 obtain ⟨A3,n3,c3,s3,A4,n4,c4,s4,rfl,rfl,hs3,hs4⟩ := TRat.agg hy
 have H1 := hid hs1; have H2 := hid hs2; have H3 := hid hs3; have H4 := hid hs4
 have VR := hid vr; have VS := hid vs
 have Vr := VR; have Vs := VS
 clear hs1 hs2 hs3 hs4 hx hy vr vs
 by_cases hsm : smallB r = true ∧ smallB s = true
 ·obtain ⟨sr,ss⟩ := hsm
  have lr := VR.out.lim sr
  have ls := VS.out.lim ss
  have Sr := hid sr; have Ss := hid ss
  clear sr ss
  obtain ⟨a,ea⟩ : ∃ a,numv r = a := ⟨_,rfl⟩
  obtain ⟨b,eb⟩ : ∃ b,denv r = b := ⟨_,rfl⟩
  obtain ⟨c,ec⟩ : ∃ c,numv s = c := ⟨_,rfl⟩
  obtain ⟨d,ed⟩ : ∃ d,denv s = d := ⟨_,rfl⟩
  rw [ea,eb] at lr
  rw [ec,ed] at ls
  have EA := hid ea; have EB := hid eb; have EC := hid ec; have ED := hid ed
  have EQ := hid (show mkR (numv r * denv s + numv s * denv r) (denv r * denv s) = mkR (a * d + c * b) (b * d) by rw [ea,eb,ec,ed])
  clear ea eb ec ed
  obtain ⟨⟨kb0,kb1⟩,ka0,ka1⟩ := lr
  obtain ⟨⟨kd0,kd1⟩,kc0,kc1⟩ := ls
  obtain ⟨p0,p1⟩ := mul_lim2 (a := a) (b := d) ⟨ka0,ka1⟩ ⟨by omega,kd1⟩
  obtain ⟨p2,p3⟩ := mul_lim2 (a := c) (b := b) ⟨kc0,kc1⟩ ⟨by omega,kb1⟩
  obtain ⟨_,p5⟩ := mul_lim2 (a := b) (b := d) ⟨by omega,kb1⟩ ⟨by omega,kd1⟩
  have p4 := Int.mul_pos kb0 kd0
  go_enter Tryz.func106,Tryz.ntmps106
  go_wp2_with fail
  have C := impl_isSmall _ r _ (((w.alloc (.cells #[.bool r.num.neg, .slice A1 n1 c1, .slice A2 n2 c2] 32)).alloc (.cells #[.bool s.num.neg, .slice A3 n3 c3, .slice A4 n4 c4] 32)).alloc (.cells #[.bool false, .slice none 0 0, .slice none 0 0] 32)) (Agg.below HX.out Below.go)
  rw [Sr.out] at C
  refine C.mono ?_
  clear C
  rintro _ w1 ⟨rfl,hb1⟩
  obtain ⟨hc_w1,hf_w1⟩ := bcell hb1
  have hz0_w1 : w.heap.size < w1.heap.size := by have := hb1.size; (try simp at this); omega
  have hz1_w1 : w.heap.size + 1 < w1.heap.size := by have := hb1.size; (try simp at this); omega
  have hz2_w1 : w.heap.size + 1 + 1 < w1.heap.size := by have := hb1.size; (try simp at this); omega
  go_wp2_with fail
  have C := impl_isSmall _ s _ w1 (Agg.below HY.out Below.go)
  rw [Ss.out] at C
  refine C.mono ?_
  clear C
  rintro _ w2 ⟨rfl,hb2⟩
  obtain ⟨hc_w2,hf_w2⟩ := bcell hb2
  have hz0_w2 : w.heap.size < w2.heap.size := by have := hb2.size; (try simp at this); omega
  have hz1_w2 : w.heap.size + 1 < w2.heap.size := by have := hb2.size; (try simp at this); omega
  have hz2_w2 : w.heap.size + 1 + 1 < w2.heap.size := by have := hb2.size; (try simp at this); omega
  go_wp2_with fail
  have C := impl_small _ r _ w2 (Agg.below HX.out Below.go) Sr.out Vr.out.mag.1 (negOk_of Vr.out.num)
  rw [EA.out,EB.out] at C
  refine C.mono ?_
  clear C
  rintro _ w3 ⟨rfl,hb3⟩
  obtain ⟨hc_w3,hf_w3⟩ := bcell hb3
  have hz0_w3 : w.heap.size < w3.heap.size := by have := hb3.size; (try simp at this); omega
  have hz1_w3 : w.heap.size + 1 < w3.heap.size := by have := hb3.size; (try simp at this); omega
  have hz2_w3 : w.heap.size + 1 + 1 < w3.heap.size := by have := hb3.size; (try simp at this); omega
  go_wp2_with fail
  have C := impl_small _ s _ w3 (Agg.below HY.out Below.go) Ss.out Vs.out.mag.1 (negOk_of Vs.out.num)
  rw [EC.out,ED.out] at C
  refine C.mono ?_
  clear C
  rintro _ w4 ⟨rfl,hb4⟩
  obtain ⟨hc_w4,hf_w4⟩ := bcell hb4
  have hz0_w4 : w.heap.size < w4.heap.size := by have := hb4.size; (try simp at this); omega
  have hz1_w4 : w.heap.size + 1 < w4.heap.size := by have := hb4.size; (try simp at this); omega
  have hz2_w4 : w.heap.size + 1 + 1 < w4.heap.size := by have := hb4.size; (try simp at this); omega
  go_wp2_with fail
  refine (impl_ofInts (a * d + c * b) (b * d) w4 p4 (by omega) (by omega) (by omega)).mono ?_
  rintro _ w5 ⟨v,bs,rfl,ha,ho,hb⟩
  obtain ⟨B1,m1,d1,t1,B2,m2,d2,t2,rfl,hz,hs1,hs2⟩ := TRat.agg ha
  have HA := hid ha; have HO := hid ho
  clear hz hs1 hs2 ha ho
  obtain ⟨hc_w5,hf_w5⟩ := bcell hb
  have hz0_w5 : w.heap.size < w5.heap.size := by have := hb.size; (try simp at this); omega
  have hz1_w5 : w.heap.size + 1 < w5.heap.size := by have := hb.size; (try simp at this); omega
  have hz2_w5 : w.heap.size + 1 + 1 < w5.heap.size := by have := hb.size; (try simp at this); omega
  go_wp2
  refine bodyPost_ret (v := .agg #[.bool (mkR (a * d + c * b) (b * d)).num.neg, .slice B1 m1 d1, .slice B2 m2 d2]) (by simp [results,Tryz.results106,go_sem, *]) rfl ?_
  rw [EQ.out]
  refine agg_fin (lo := w.heap.size + 3) HA.out HO.out.free (fun b hb => by have := (HO.out.2 b hb).1; (try simp at this); omega) (by omega) ?_ ?_
  ·exact Above.go
  ·exact Below.go
 ·have DD := hid (VR.out.denD VS.out)
  have LT := hid (show (encI (numv r * denv s + numv s * denv r)).mag.length ≤ 65536 from Nat.le_trans (enc_len (len_add (len_mul VR.out.numlt VS.out.denlt) (len_mul VS.out.numlt VR.out.denlt))) (by decide))
  by_cases hsh : Int.gcd (val (encI (numv r * denv s + numv s * denv r)).mag) (val (dig (denv r * denv s).toNat)) = 1 ∧ (encI (numv r * denv s + numv s * denv r)).mag.length ≤ 24 ∧ (dig (denv r * denv s).toNat).length ≤ 24
  ·have HS := hid hsh
   have MK := hid (show mkR (numv r * denv s + numv s * denv r) (denv r * denv s) = ⟨encI (numv r * denv s + numv s * denv r),dig (denv r * denv s).toNat⟩ by
    have := mkR_ok (X := encI (numv r * denv s + numv s * denv r)) (encI_can _) (enc_negok _) DD.out.can (by rw [DD.out.v]; exact Int.mul_pos VR.out.den0 VS.out.den0) hsh.1 hsh.2.1 hsh.2.2
    rwa [ival_enc,DD.out.v] at this)
   clear hsh
   cases hsr : smallB r
   ·have Sr := hid hsr
    clear hsr hsm
    go_enter Tryz.func106,Tryz.ntmps106
    go_wp2_with fail
    have C := impl_isSmall _ r _ (((w.alloc (.cells #[.bool r.num.neg, .slice A1 n1 c1, .slice A2 n2 c2] 32)).alloc (.cells #[.bool s.num.neg, .slice A3 n3 c3, .slice A4 n4 c4] 32)).alloc (.cells #[.bool false, .slice none 0 0, .slice none 0 0] 32)) (Agg.below HX.out Below.go)
    rw [Sr.out] at C
    refine C.mono ?_
    clear C
    rintro _ w1 ⟨rfl,hb1⟩
    obtain ⟨hc_w1,hf_w1⟩ := bcell hb1
    have hz0_w1 : w.heap.size < w1.heap.size := by have := hb1.size; (try simp at this); omega
    have hz1_w1 : w.heap.size + 1 < w1.heap.size := by have := hb1.size; (try simp at this); omega
    have hz2_w1 : w.heap.size + 1 + 1 < w1.heap.size := by have := hb1.size; (try simp at this); omega
    go_wp2_with fail
    refine wp_region_last (by simp) (by kernel_rfl) (by kernel_rfl) (by kernel_rfl) (by kernel_rfl) ?_
    dsimp only [List.dropLast,List.getLast,List.length]
    iterate 5
     apply walkM_eq
     case h =>
      intro yq zq wq hC hd
      obtain ⟨hcq,hfq⟩ := bcell hC
      simp at hd
      refine ⟨by go_simp; done, ?_⟩
      go_simp
      first | (go_ints; exact rfl) | (go_ints; rw [if_pos (by omega)]; try exact rfl) | exact rfl | (rw [if_pos (by omega)]; try exact rfl)
    refine walkM_call (MP.agg (encI (numv r * denv s))) ?_ ?_
    ·intro yq zq wq hC hd
     obtain ⟨hcq,hfq⟩ := bcell hC
     simp at hd
     refine ⟨by go_simp; done, ?_⟩
     apply Exists.intro
     apply Exists.intro
     constructor
     ·go_simp
      exact ⟨rfl,rfl⟩
     ·have D := den_big (r := s) (Sl.below H4.out (show Below w.heap.size w wq from Below.go))
      have C := impl_bigMul _ _ r.num ⟨false,s.den⟩ _ _ wq (TBigInt.mkAgg (Sl.below H1.out Below.go)) D.1 VR.out.mag.1 VS.out.den.1 (Nat.le_trans VR.out.num24 (by decide)) (Nat.le_trans VS.out.den24 (by decide))
      rw [D.2] at C
      exact gives_agg C
    iterate 5
     apply walkM_eq
     case h =>
      intro yq zq wq hC hd
      obtain ⟨hcq,hfq⟩ := bcell hC
      simp at hd
      refine ⟨by go_simp; done, ?_⟩
      go_simp
      first | (go_ints; exact rfl) | (go_ints; rw [if_pos (by omega)]; try exact rfl) | exact rfl | (rw [if_pos (by omega)]; try exact rfl)
    refine walkM_call (MP.agg (encI (numv s * denv r))) ?_ ?_
    ·intro yq zq wq hC hd
     obtain ⟨hcq,hfq⟩ := bcell hC
     simp at hd
     refine ⟨by go_simp; done, ?_⟩
     apply Exists.intro
     apply Exists.intro
     constructor
     ·go_simp
      exact ⟨rfl,rfl⟩
     ·have D := den_big (r := r) (Sl.below H2.out (show Below w.heap.size w wq from Below.go))
      have C := impl_bigMul _ _ s.num ⟨false,r.den⟩ _ _ wq (TBigInt.mkAgg (Sl.below H3.out Below.go)) D.1 VS.out.mag.1 VR.out.den.1 (Nat.le_trans VS.out.num24 (by decide)) (Nat.le_trans VR.out.den24 (by decide))
      rw [D.2] at C
      exact gives_agg C
    refine walkM_call (MP.agg (encI (numv r * denv s + numv s * denv r))) ?_ ?_
    ·intro yq zq wq hC hd
     obtain ⟨hcq,hfq⟩ := bcell hC
     simp at hd
     refine ⟨by go_simp; done, ?_⟩
     apply Exists.intro
     apply Exists.intro
     constructor
     ·go_simp
      exact ⟨rfl,rfl⟩
     ·obtain ⟨⟨ha, _⟩,hb, _⟩ := hd
      have C := impl_bigAdd _ _ _ _ _ _ wq ha hb (encI_can _) (encI_can _) (Nat.le_trans (enc_len (len_mul VR.out.numlt VS.out.denlt)) (by decide)) (Nat.le_trans (enc_len (len_mul VS.out.numlt VR.out.denlt)) (by decide))
      rw [ival_enc,ival_enc] at C
      exact gives_agg C
    refine walkM_new #[.bool false, .slice none 0 0] 30 ?_ ?_
    ·intro yq zq wq hC hd
     refine ⟨by go_simp; done, ?_⟩
     go_simp
    intro yq zq wa hC hd hdis0
    have hdis := hid hdis0
    clear hdis0
    simp at hd
    have q12 := hd.2.2.2.2.2.2.2.2.2.2.2.2.1
    have q13 := hd.2.2.2.2.2.2.2.2.2.2.2.2.2
    obtain ⟨⟨ha12,hf12⟩,hr12⟩ := q12
    obtain ⟨B1,m1,d1,t1,e12,hz12,hs12⟩ := TBigInt.agg ha12
    obtain ⟨⟨g,e13,hz13,hg⟩,hr13⟩ := q13
    have hgt : ∀ b ∈ t1,b ≠ g := fun b hb e => by
     have := hdis.out 12 13 (by decide) (by decide) (by decide) b (by rw [hz12]; exact hb)
     rw [hz13] at this; simp at this; exact this e
    rw [hz12] at hf12 hr12
    have hgw : w1.heap.size ≤ g ∧ g < wa.heap.size := by have := hr13 g (by rw [hz13]; simp); omega
    have hgw1 := hgw.1
    obtain ⟨G0,F0⟩ := box_cell hg (j := 0) rfl
    obtain ⟨G1,F1⟩ := box_cell hg (j := 1) rfl
    obtain ⟨k1,k2⟩ := keep_sl hs12 hf12 hgt (.bool (encI (numv r * denv s + numv s * denv r)).neg) (.slice B1 m1 d1)
    have HK1 := hid k1; have HK2 := hid k2
    have HR1 := hid (fun b hb => (hr12 b hb).1)
    have hb6 : Below w.heap.size w ((wa.setCell ⟨g,0,none⟩ (.bool (encI (numv r * denv s + numv s * denv r)).neg)).setCell ⟨g,1,none⟩ (.slice B1 m1 d1)) := Below.go
    have K1 : ((wa.setCell ⟨g,0,none⟩ (.bool (encI (numv r * denv s + numv s * denv r)).neg)).setCell ⟨g,1,none⟩ (.slice B1 m1 d1)).cell? ⟨g,1,none⟩ = some (.slice B1 m1 d1) :=
     World.cell?_setCell_same _ _ _ ((World.cell?_setCell_other wa ⟨g,0,none⟩ ⟨g,1,none⟩ _ (by simp)).trans G1)
    have K0 : ((wa.setCell ⟨g,0,none⟩ (.bool (encI (numv r * denv s + numv s * denv r)).neg)).setCell ⟨g,1,none⟩ (.slice B1 m1 d1)).cell? ⟨g,0,none⟩ = some (.bool (encI (numv r * denv s + numv s * denv r)).neg) :=
     (World.cell?_setCell_other _ ⟨g,1,none⟩ ⟨g,0,none⟩ _ (by simp)).trans (World.cell?_setCell_same _ _ _ G0)
    have hb6' : Below w1.heap.size w1 ((wa.setCell ⟨g,0,none⟩ (.bool (encI (numv r * denv s + numv s * denv r)).neg)).setCell ⟨g,1,none⟩ (.slice B1 m1 d1)) := (hC.setCell (p := ⟨g,0,none⟩) hgw1 _).setCell (p := ⟨g,1,none⟩) hgw1 _
    have HB6' := hid hb6'
    have HK0 := hid K0; have HKK1 := hid K1; have HB6 := hid hb6
    have hz6 : ((wa.setCell ⟨g,0,none⟩ (.bool (encI (numv r * denv s + numv s * denv r)).neg)).setCell ⟨g,1,none⟩ (.slice B1 m1 d1)).heap.size = wa.heap.size := by simp
    have HZ6 := hid hz6
    have hgl := hgw.2
    clear hd hdis hs12 hf12 hr12 hr13 hg hgt k1 k2 K0 K1 hb6 hb6' hz6 ha12 hz12 hz13
    obtain ⟨hc_wa,hf_wa⟩ := bcell hC
    have hz0_wa : w.heap.size < wa.heap.size := by have := hC.size; (try simp at this); omega
    have hz1_wa : w.heap.size + 1 < wa.heap.size := by have := hC.size; (try simp at this); omega
    have hz2_wa : w.heap.size + 1 + 1 < wa.heap.size := by have := hC.size; (try simp at this); omega
    go_wp2_with fail
    generalize ((wa.setCell ⟨g,0,none⟩ (.bool (encI (numv r * denv s + numv s * denv r)).neg)).setCell ⟨g,1,none⟩ (.slice B1 m1 d1)) = W6 at *
    have hgl6 : g < W6.heap.size := by have := HZ6.out; omega
    have kk0 := HK0.out
    have kk1 := HKK1.out
    obtain ⟨hc_6,hf_6⟩ := bcell HB6'.out
    have hz6s : w1.heap.size ≤ W6.heap.size := HB6'.out.size
    have hz6a : w.heap.size < W6.heap.size := by omega
    have hz6b : w.heap.size + 1 < W6.heap.size := by omega
    have hz6c : w.heap.size + 1 + 1 < W6.heap.size := by omega
    clear G0 G1 F0 F1 hc_wa hf_wa e12 e13 hC hz0_wa hz1_wa hz2_wa
    have hbW := HB6.out
    refine wp_region_last (by simp) (by kernel_rfl) (by kernel_rfl) (by kernel_rfl) (by kernel_rfl) ?_
    dsimp only [List.dropLast,List.getLast,List.length]
    iterate 5
     apply walkM_eq
     case h =>
      intro yq zq wq hC hd
      obtain ⟨hcq,hfq⟩ := bcell hC
      simp at hd
      refine ⟨by go_simp; done, ?_⟩
      go_simp
      first | (go_ints; exact rfl) | (go_ints; rw [if_pos (by omega)]; try exact rfl) | exact rfl | (rw [if_pos (by omega)]; try exact rfl)
    refine walkM_call (MP.sl (dig (denv r * denv s).toNat)) ?_ ?_
    ·intro yq zq wq hC hd
     obtain ⟨hcq,hfq⟩ := bcell hC
     simp at hd
     refine ⟨by go_simp; done, ?_⟩
     apply Exists.intro
     apply Exists.intro
     constructor
     ·go_simp
      exact ⟨rfl,rfl⟩
     ·exact gives_sl (impl_natMul A2 A4 n2 n4 c2 c4 r.den s.den _ _ wq (Sl.below H2.out Below.go) (Sl.below H4.out Below.go) VR.out.den.1 VS.out.den.1 (by rw [← H2.out.1]; exact Nat.le_trans VR.out.den24 (by decide)) (by rw [← H4.out.1]; exact Nat.le_trans VS.out.den24 (by decide)))
    refine walkM_callD (fun y' => MP.eq (.agg #[.bool (encI (numv r * denv s + numv s * denv r)).neg, .slice B1 m1 d1,y' 5])) (by intro y y' h; simp [deps,depOf] at h; simp [h]) ?_ ?_
    ·intro yq zq wq hC hd
     obtain ⟨hcq,hfq⟩ := bcell hC
     simp at hd
     refine ⟨by go_simp; done, ?_⟩
     apply Exists.intro
     apply Exists.intro
     constructor
     ·go_simp
      exact ⟨rfl,rfl⟩
     ·obtain ⟨_,⟨A',n',c',e5,hs2⟩, _⟩ := hd
      rw [e5]
      have hl := hs2.1
      exact gives_eq (red_shared' (Sl.below HK1.out hC) hs2 (encI_can _) DD.out.can (by rw [← hl]; exact DD.out.pos) LT.out (by rw [← hl]; exact DD.out.le) HS.out.1 HS.out.2.1 (by rw [← hl]; exact HS.out.2.2))
    intro yq zq wb hC hd hdis0
    have hdis := hid hdis0
    clear hdis0
    simp at hd
    have q5 := hd.2.2.2.2.2.1
    have q6 := hd.2.2.2.2.2.2
    obtain ⟨⟨⟨B2,m2,d2,e5,hs2⟩,hf2⟩,hr2⟩ := q5
    have e6 : yq 6 = .agg #[.bool (encI (numv r * denv s + numv s * denv r)).neg, .slice B1 m1 d1, .slice B2 m2 d2] := by rw [q6.1.1,e5]
    have HS2 := hid hs2; have HF2 := hid hf2; have HR2 := hid hr2
    clear hd hdis q6 hs2 hf2 hr2
    obtain ⟨hc_wb,hf_wb⟩ := bcell hC
    have hz0_wb : w.heap.size < wb.heap.size := by have := hC.size; (try simp at this); omega
    have hz1_wb : w.heap.size + 1 < wb.heap.size := by have := hC.size; (try simp at this); omega
    have hz2_wb : w.heap.size + 1 + 1 < wb.heap.size := by have := hC.size; (try simp at this); omega
    go_wp2
    refine bodyPost_ret (v := .agg #[.bool (encI (numv r * denv s + numv s * denv r)).neg, .slice B1 m1 d1, .slice B2 m2 d2]) (by simp [results,Tryz.results106,go_sem, *]) rfl ?_
    rw [MK.out]
    have f1 := fun (W : World) (ha : Above (w.heap.size + 3) W6 W) => fin_own (w := w) HK1.out HK2.out (fun b hb => by have := HR1.out b hb; omega) (by omega) ha
    have f2 := fun (W : World) (ha : Above (w.heap.size + 3) wb W) => fin_own (w := w) HS2.out HF2.out (fun b hb => by have := (HR2.out b hb).1; omega) (by omega) ha
    refine rat_fin (x := ⟨encI (numv r * denv s + numv s * denv r),dig (denv r * denv s).toNat⟩) (f1 _ ?_) (f2 _ ?_) (apart_of_lt (N := W6.heap.size) HK1.out.lt (fun b hb => (HR2.out b hb).1)) ?_
    ·exact Above.go
    ·exact Above.go
    ·exact Below.go
   ·have Ss := hid (show smallB s = false by cases h : smallB s; rfl; exact absurd ⟨hsr,h⟩ hsm)
    have Sr := hid hsr
    clear hsr hsm
    go_enter Tryz.func106,Tryz.ntmps106
    go_wp2_with fail
    have C := impl_isSmall _ r _ (((w.alloc (.cells #[.bool r.num.neg, .slice A1 n1 c1, .slice A2 n2 c2] 32)).alloc (.cells #[.bool s.num.neg, .slice A3 n3 c3, .slice A4 n4 c4] 32)).alloc (.cells #[.bool false, .slice none 0 0, .slice none 0 0] 32)) (Agg.below HX.out Below.go)
    rw [Sr.out] at C
    refine C.mono ?_
    clear C
    rintro _ w1 ⟨rfl,hb1⟩
    obtain ⟨hc_w1,hf_w1⟩ := bcell hb1
    have hz0_w1 : w.heap.size < w1.heap.size := by have := hb1.size; (try simp at this); omega
    have hz1_w1 : w.heap.size + 1 < w1.heap.size := by have := hb1.size; (try simp at this); omega
    have hz2_w1 : w.heap.size + 1 + 1 < w1.heap.size := by have := hb1.size; (try simp at this); omega
    go_wp2_with fail
    have C := impl_isSmall _ s _ w1 (Agg.below HY.out Below.go)
    rw [Ss.out] at C
    refine C.mono ?_
    clear C
    rintro _ w2 ⟨rfl,hb2⟩
    obtain ⟨hc_w2,hf_w2⟩ := bcell hb2
    have hz0_w2 : w.heap.size < w2.heap.size := by have := hb2.size; (try simp at this); omega
    have hz1_w2 : w.heap.size + 1 < w2.heap.size := by have := hb2.size; (try simp at this); omega
    have hz2_w2 : w.heap.size + 1 + 1 < w2.heap.size := by have := hb2.size; (try simp at this); omega
    go_wp2_with fail
    refine wp_region_last (by simp) (by kernel_rfl) (by kernel_rfl) (by kernel_rfl) (by kernel_rfl) ?_
    dsimp only [List.dropLast,List.getLast,List.length]
    iterate 5
     apply walkM_eq
     case h =>
      intro yq zq wq hC hd
      obtain ⟨hcq,hfq⟩ := bcell hC
      simp at hd
      refine ⟨by go_simp; done, ?_⟩
      go_simp
      first | (go_ints; exact rfl) | (go_ints; rw [if_pos (by omega)]; try exact rfl) | exact rfl | (rw [if_pos (by omega)]; try exact rfl)
    refine walkM_call (MP.agg (encI (numv r * denv s))) ?_ ?_
    ·intro yq zq wq hC hd
     obtain ⟨hcq,hfq⟩ := bcell hC
     simp at hd
     refine ⟨by go_simp; done, ?_⟩
     apply Exists.intro
     apply Exists.intro
     constructor
     ·go_simp
      exact ⟨rfl,rfl⟩
     ·have D := den_big (r := s) (Sl.below H4.out (show Below w.heap.size w wq from Below.go))
      have C := impl_bigMul _ _ r.num ⟨false,s.den⟩ _ _ wq (TBigInt.mkAgg (Sl.below H1.out Below.go)) D.1 VR.out.mag.1 VS.out.den.1 (Nat.le_trans VR.out.num24 (by decide)) (Nat.le_trans VS.out.den24 (by decide))
      rw [D.2] at C
      exact gives_agg C
    iterate 5
     apply walkM_eq
     case h =>
      intro yq zq wq hC hd
      obtain ⟨hcq,hfq⟩ := bcell hC
      simp at hd
      refine ⟨by go_simp; done, ?_⟩
      go_simp
      first | (go_ints; exact rfl) | (go_ints; rw [if_pos (by omega)]; try exact rfl) | exact rfl | (rw [if_pos (by omega)]; try exact rfl)
    refine walkM_call (MP.agg (encI (numv s * denv r))) ?_ ?_
    ·intro yq zq wq hC hd
     obtain ⟨hcq,hfq⟩ := bcell hC
     simp at hd
     refine ⟨by go_simp; done, ?_⟩
     apply Exists.intro
     apply Exists.intro
     constructor
     ·go_simp
      exact ⟨rfl,rfl⟩
     ·have D := den_big (r := r) (Sl.below H2.out (show Below w.heap.size w wq from Below.go))
      have C := impl_bigMul _ _ s.num ⟨false,r.den⟩ _ _ wq (TBigInt.mkAgg (Sl.below H3.out Below.go)) D.1 VS.out.mag.1 VR.out.den.1 (Nat.le_trans VS.out.num24 (by decide)) (Nat.le_trans VR.out.den24 (by decide))
      rw [D.2] at C
      exact gives_agg C
    refine walkM_call (MP.agg (encI (numv r * denv s + numv s * denv r))) ?_ ?_
    ·intro yq zq wq hC hd
     obtain ⟨hcq,hfq⟩ := bcell hC
     simp at hd
     refine ⟨by go_simp; done, ?_⟩
     apply Exists.intro
     apply Exists.intro
     constructor
     ·go_simp
      exact ⟨rfl,rfl⟩
     ·obtain ⟨⟨ha, _⟩,hb, _⟩ := hd
      have C := impl_bigAdd _ _ _ _ _ _ wq ha hb (encI_can _) (encI_can _) (Nat.le_trans (enc_len (len_mul VR.out.numlt VS.out.denlt)) (by decide)) (Nat.le_trans (enc_len (len_mul VS.out.numlt VR.out.denlt)) (by decide))
      rw [ival_enc,ival_enc] at C
      exact gives_agg C
    refine walkM_new #[.bool false, .slice none 0 0] 30 ?_ ?_
    ·intro yq zq wq hC hd
     refine ⟨by go_simp; done, ?_⟩
     go_simp
    intro yq zq wa hC hd hdis0
    have hdis := hid hdis0
    clear hdis0
    simp at hd
    have q12 := hd.2.2.2.2.2.2.2.2.2.2.2.2.1
    have q13 := hd.2.2.2.2.2.2.2.2.2.2.2.2.2
    obtain ⟨⟨ha12,hf12⟩,hr12⟩ := q12
    obtain ⟨B1,m1,d1,t1,e12,hz12,hs12⟩ := TBigInt.agg ha12
    obtain ⟨⟨g,e13,hz13,hg⟩,hr13⟩ := q13
    have hgt : ∀ b ∈ t1,b ≠ g := fun b hb e => by
     have := hdis.out 12 13 (by decide) (by decide) (by decide) b (by rw [hz12]; exact hb)
     rw [hz13] at this; simp at this; exact this e
    rw [hz12] at hf12 hr12
    have hgw : w2.heap.size ≤ g ∧ g < wa.heap.size := by have := hr13 g (by rw [hz13]; simp); omega
    have hgw1 := hgw.1
    obtain ⟨G0,F0⟩ := box_cell hg (j := 0) rfl
    obtain ⟨G1,F1⟩ := box_cell hg (j := 1) rfl
    obtain ⟨k1,k2⟩ := keep_sl hs12 hf12 hgt (.bool (encI (numv r * denv s + numv s * denv r)).neg) (.slice B1 m1 d1)
    have HK1 := hid k1; have HK2 := hid k2
    have HR1 := hid (fun b hb => (hr12 b hb).1)
    have hb6 : Below w.heap.size w ((wa.setCell ⟨g,0,none⟩ (.bool (encI (numv r * denv s + numv s * denv r)).neg)).setCell ⟨g,1,none⟩ (.slice B1 m1 d1)) := Below.go
    have K1 : ((wa.setCell ⟨g,0,none⟩ (.bool (encI (numv r * denv s + numv s * denv r)).neg)).setCell ⟨g,1,none⟩ (.slice B1 m1 d1)).cell? ⟨g,1,none⟩ = some (.slice B1 m1 d1) :=
     World.cell?_setCell_same _ _ _ ((World.cell?_setCell_other wa ⟨g,0,none⟩ ⟨g,1,none⟩ _ (by simp)).trans G1)
    have K0 : ((wa.setCell ⟨g,0,none⟩ (.bool (encI (numv r * denv s + numv s * denv r)).neg)).setCell ⟨g,1,none⟩ (.slice B1 m1 d1)).cell? ⟨g,0,none⟩ = some (.bool (encI (numv r * denv s + numv s * denv r)).neg) :=
     (World.cell?_setCell_other _ ⟨g,1,none⟩ ⟨g,0,none⟩ _ (by simp)).trans (World.cell?_setCell_same _ _ _ G0)
    have hb6' : Below w2.heap.size w2 ((wa.setCell ⟨g,0,none⟩ (.bool (encI (numv r * denv s + numv s * denv r)).neg)).setCell ⟨g,1,none⟩ (.slice B1 m1 d1)) := (hC.setCell (p := ⟨g,0,none⟩) hgw1 _).setCell (p := ⟨g,1,none⟩) hgw1 _
    have HB6' := hid hb6'
    have HK0 := hid K0; have HKK1 := hid K1; have HB6 := hid hb6
    have hz6 : ((wa.setCell ⟨g,0,none⟩ (.bool (encI (numv r * denv s + numv s * denv r)).neg)).setCell ⟨g,1,none⟩ (.slice B1 m1 d1)).heap.size = wa.heap.size := by simp
    have HZ6 := hid hz6
    have hgl := hgw.2
    clear hd hdis hs12 hf12 hr12 hr13 hg hgt k1 k2 K0 K1 hb6 hb6' hz6 ha12 hz12 hz13
    obtain ⟨hc_wa,hf_wa⟩ := bcell hC
    have hz0_wa : w.heap.size < wa.heap.size := by have := hC.size; (try simp at this); omega
    have hz1_wa : w.heap.size + 1 < wa.heap.size := by have := hC.size; (try simp at this); omega
    have hz2_wa : w.heap.size + 1 + 1 < wa.heap.size := by have := hC.size; (try simp at this); omega
    go_wp2_with fail
    generalize ((wa.setCell ⟨g,0,none⟩ (.bool (encI (numv r * denv s + numv s * denv r)).neg)).setCell ⟨g,1,none⟩ (.slice B1 m1 d1)) = W6 at *
    have hgl6 : g < W6.heap.size := by have := HZ6.out; omega
    have kk0 := HK0.out
    have kk1 := HKK1.out
    obtain ⟨hc_6,hf_6⟩ := bcell HB6'.out
    have hz6s : w2.heap.size ≤ W6.heap.size := HB6'.out.size
    have hz6a : w.heap.size < W6.heap.size := by omega
    have hz6b : w.heap.size + 1 < W6.heap.size := by omega
    have hz6c : w.heap.size + 1 + 1 < W6.heap.size := by omega
    clear G0 G1 F0 F1 hc_wa hf_wa e12 e13 hC hz0_wa hz1_wa hz2_wa
    have hbW := HB6.out
    refine wp_region_last (by simp) (by kernel_rfl) (by kernel_rfl) (by kernel_rfl) (by kernel_rfl) ?_
    dsimp only [List.dropLast,List.getLast,List.length]
    iterate 5
     apply walkM_eq
     case h =>
      intro yq zq wq hC hd
      obtain ⟨hcq,hfq⟩ := bcell hC
      simp at hd
      refine ⟨by go_simp; done, ?_⟩
      go_simp
      first | (go_ints; exact rfl) | (go_ints; rw [if_pos (by omega)]; try exact rfl) | exact rfl | (rw [if_pos (by omega)]; try exact rfl)
    refine walkM_call (MP.sl (dig (denv r * denv s).toNat)) ?_ ?_
    ·intro yq zq wq hC hd
     obtain ⟨hcq,hfq⟩ := bcell hC
     simp at hd
     refine ⟨by go_simp; done, ?_⟩
     apply Exists.intro
     apply Exists.intro
     constructor
     ·go_simp
      exact ⟨rfl,rfl⟩
     ·exact gives_sl (impl_natMul A2 A4 n2 n4 c2 c4 r.den s.den _ _ wq (Sl.below H2.out Below.go) (Sl.below H4.out Below.go) VR.out.den.1 VS.out.den.1 (by rw [← H2.out.1]; exact Nat.le_trans VR.out.den24 (by decide)) (by rw [← H4.out.1]; exact Nat.le_trans VS.out.den24 (by decide)))
    refine walkM_callD (fun y' => MP.eq (.agg #[.bool (encI (numv r * denv s + numv s * denv r)).neg, .slice B1 m1 d1,y' 5])) (by intro y y' h; simp [deps,depOf] at h; simp [h]) ?_ ?_
    ·intro yq zq wq hC hd
     obtain ⟨hcq,hfq⟩ := bcell hC
     simp at hd
     refine ⟨by go_simp; done, ?_⟩
     apply Exists.intro
     apply Exists.intro
     constructor
     ·go_simp
      exact ⟨rfl,rfl⟩
     ·obtain ⟨_,⟨A',n',c',e5,hs2⟩, _⟩ := hd
      rw [e5]
      have hl := hs2.1
      exact gives_eq (red_shared' (Sl.below HK1.out hC) hs2 (encI_can _) DD.out.can (by rw [← hl]; exact DD.out.pos) LT.out (by rw [← hl]; exact DD.out.le) HS.out.1 HS.out.2.1 (by rw [← hl]; exact HS.out.2.2))
    intro yq zq wb hC hd hdis0
    have hdis := hid hdis0
    clear hdis0
    simp at hd
    have q5 := hd.2.2.2.2.2.1
    have q6 := hd.2.2.2.2.2.2
    obtain ⟨⟨⟨B2,m2,d2,e5,hs2⟩,hf2⟩,hr2⟩ := q5
    have e6 : yq 6 = .agg #[.bool (encI (numv r * denv s + numv s * denv r)).neg, .slice B1 m1 d1, .slice B2 m2 d2] := by rw [q6.1.1,e5]
    have HS2 := hid hs2; have HF2 := hid hf2; have HR2 := hid hr2
    clear hd hdis q6 hs2 hf2 hr2
    obtain ⟨hc_wb,hf_wb⟩ := bcell hC
    have hz0_wb : w.heap.size < wb.heap.size := by have := hC.size; (try simp at this); omega
    have hz1_wb : w.heap.size + 1 < wb.heap.size := by have := hC.size; (try simp at this); omega
    have hz2_wb : w.heap.size + 1 + 1 < wb.heap.size := by have := hC.size; (try simp at this); omega
    go_wp2
    refine bodyPost_ret (v := .agg #[.bool (encI (numv r * denv s + numv s * denv r)).neg, .slice B1 m1 d1, .slice B2 m2 d2]) (by simp [results,Tryz.results106,go_sem, *]) rfl ?_
    rw [MK.out]
    have f1 := fun (W : World) (ha : Above (w.heap.size + 3) W6 W) => fin_own (w := w) HK1.out HK2.out (fun b hb => by have := HR1.out b hb; omega) (by omega) ha
    have f2 := fun (W : World) (ha : Above (w.heap.size + 3) wb W) => fin_own (w := w) HS2.out HF2.out (fun b hb => by have := (HR2.out b hb).1; omega) (by omega) ha
    refine rat_fin (x := ⟨encI (numv r * denv s + numv s * denv r),dig (denv r * denv s).toNat⟩) (f1 _ ?_) (f2 _ ?_) (apart_of_lt (N := W6.heap.size) HK1.out.lt (fun b hb => (HR2.out b hb).1)) ?_
    ·exact Above.go
    ·exact Above.go
    ·exact Below.go
  ·have HS := hid hsh
   clear hsh
   cases hsr : smallB r
   ·have Sr := hid hsr
    clear hsr hsm
    go_enter Tryz.func106,Tryz.ntmps106
    go_wp2_with fail
    have C := impl_isSmall _ r _ (((w.alloc (.cells #[.bool r.num.neg, .slice A1 n1 c1, .slice A2 n2 c2] 32)).alloc (.cells #[.bool s.num.neg, .slice A3 n3 c3, .slice A4 n4 c4] 32)).alloc (.cells #[.bool false, .slice none 0 0, .slice none 0 0] 32)) (Agg.below HX.out Below.go)
    rw [Sr.out] at C
    refine C.mono ?_
    clear C
    rintro _ w1 ⟨rfl,hb1⟩
    obtain ⟨hc_w1,hf_w1⟩ := bcell hb1
    have hz0_w1 : w.heap.size < w1.heap.size := by have := hb1.size; (try simp at this); omega
    have hz1_w1 : w.heap.size + 1 < w1.heap.size := by have := hb1.size; (try simp at this); omega
    have hz2_w1 : w.heap.size + 1 + 1 < w1.heap.size := by have := hb1.size; (try simp at this); omega
    go_wp2_with fail
    refine wp_region_last (by simp) (by kernel_rfl) (by kernel_rfl) (by kernel_rfl) (by kernel_rfl) ?_
    dsimp only [List.dropLast,List.getLast,List.length]
    iterate 5
     apply walkM_eq
     case h =>
      intro yq zq wq hC hd
      obtain ⟨hcq,hfq⟩ := bcell hC
      simp at hd
      refine ⟨by go_simp; done, ?_⟩
      go_simp
      first | (go_ints; exact rfl) | (go_ints; rw [if_pos (by omega)]; try exact rfl) | exact rfl | (rw [if_pos (by omega)]; try exact rfl)
    refine walkM_call (MP.agg (encI (numv r * denv s))) ?_ ?_
    ·intro yq zq wq hC hd
     obtain ⟨hcq,hfq⟩ := bcell hC
     simp at hd
     refine ⟨by go_simp; done, ?_⟩
     apply Exists.intro
     apply Exists.intro
     constructor
     ·go_simp
      exact ⟨rfl,rfl⟩
     ·have D := den_big (r := s) (Sl.below H4.out (show Below w.heap.size w wq from Below.go))
      have C := impl_bigMul _ _ r.num ⟨false,s.den⟩ _ _ wq (TBigInt.mkAgg (Sl.below H1.out Below.go)) D.1 VR.out.mag.1 VS.out.den.1 (Nat.le_trans VR.out.num24 (by decide)) (Nat.le_trans VS.out.den24 (by decide))
      rw [D.2] at C
      exact gives_agg C
    iterate 5
     apply walkM_eq
     case h =>
      intro yq zq wq hC hd
      obtain ⟨hcq,hfq⟩ := bcell hC
      simp at hd
      refine ⟨by go_simp; done, ?_⟩
      go_simp
      first | (go_ints; exact rfl) | (go_ints; rw [if_pos (by omega)]; try exact rfl) | exact rfl | (rw [if_pos (by omega)]; try exact rfl)
    refine walkM_call (MP.agg (encI (numv s * denv r))) ?_ ?_
    ·intro yq zq wq hC hd
     obtain ⟨hcq,hfq⟩ := bcell hC
     simp at hd
     refine ⟨by go_simp; done, ?_⟩
     apply Exists.intro
     apply Exists.intro
     constructor
     ·go_simp
      exact ⟨rfl,rfl⟩
     ·have D := den_big (r := r) (Sl.below H2.out (show Below w.heap.size w wq from Below.go))
      have C := impl_bigMul _ _ s.num ⟨false,r.den⟩ _ _ wq (TBigInt.mkAgg (Sl.below H3.out Below.go)) D.1 VS.out.mag.1 VR.out.den.1 (Nat.le_trans VS.out.num24 (by decide)) (Nat.le_trans VR.out.den24 (by decide))
      rw [D.2] at C
      exact gives_agg C
    refine walkM_call (MP.agg (encI (numv r * denv s + numv s * denv r))) ?_ ?_
    ·intro yq zq wq hC hd
     obtain ⟨hcq,hfq⟩ := bcell hC
     simp at hd
     refine ⟨by go_simp; done, ?_⟩
     apply Exists.intro
     apply Exists.intro
     constructor
     ·go_simp
      exact ⟨rfl,rfl⟩
     ·obtain ⟨⟨ha, _⟩,hb, _⟩ := hd
      have C := impl_bigAdd _ _ _ _ _ _ wq ha hb (encI_can _) (encI_can _) (Nat.le_trans (enc_len (len_mul VR.out.numlt VS.out.denlt)) (by decide)) (Nat.le_trans (enc_len (len_mul VS.out.numlt VR.out.denlt)) (by decide))
      rw [ival_enc,ival_enc] at C
      exact gives_agg C
    refine walkM_new #[.bool false, .slice none 0 0] 30 ?_ ?_
    ·intro yq zq wq hC hd
     refine ⟨by go_simp; done, ?_⟩
     go_simp
    intro yq zq wa hC hd hdis0
    have hdis := hid hdis0
    clear hdis0
    simp at hd
    have q12 := hd.2.2.2.2.2.2.2.2.2.2.2.2.1
    have q13 := hd.2.2.2.2.2.2.2.2.2.2.2.2.2
    obtain ⟨⟨ha12,hf12⟩,hr12⟩ := q12
    obtain ⟨B1,m1,d1,t1,e12,hz12,hs12⟩ := TBigInt.agg ha12
    obtain ⟨⟨g,e13,hz13,hg⟩,hr13⟩ := q13
    have hgt : ∀ b ∈ t1,b ≠ g := fun b hb e => by
     have := hdis.out 12 13 (by decide) (by decide) (by decide) b (by rw [hz12]; exact hb)
     rw [hz13] at this; simp at this; exact this e
    rw [hz12] at hf12 hr12
    have hgw : w1.heap.size ≤ g ∧ g < wa.heap.size := by have := hr13 g (by rw [hz13]; simp); omega
    have hgw1 := hgw.1
    obtain ⟨G0,F0⟩ := box_cell hg (j := 0) rfl
    obtain ⟨G1,F1⟩ := box_cell hg (j := 1) rfl
    obtain ⟨k1,k2⟩ := keep_sl hs12 hf12 hgt (.bool (encI (numv r * denv s + numv s * denv r)).neg) (.slice B1 m1 d1)
    have HK1 := hid k1; have HK2 := hid k2
    have HR1 := hid (fun b hb => (hr12 b hb).1)
    have hb6 : Below w.heap.size w ((wa.setCell ⟨g,0,none⟩ (.bool (encI (numv r * denv s + numv s * denv r)).neg)).setCell ⟨g,1,none⟩ (.slice B1 m1 d1)) := Below.go
    have K1 : ((wa.setCell ⟨g,0,none⟩ (.bool (encI (numv r * denv s + numv s * denv r)).neg)).setCell ⟨g,1,none⟩ (.slice B1 m1 d1)).cell? ⟨g,1,none⟩ = some (.slice B1 m1 d1) :=
     World.cell?_setCell_same _ _ _ ((World.cell?_setCell_other wa ⟨g,0,none⟩ ⟨g,1,none⟩ _ (by simp)).trans G1)
    have K0 : ((wa.setCell ⟨g,0,none⟩ (.bool (encI (numv r * denv s + numv s * denv r)).neg)).setCell ⟨g,1,none⟩ (.slice B1 m1 d1)).cell? ⟨g,0,none⟩ = some (.bool (encI (numv r * denv s + numv s * denv r)).neg) :=
     (World.cell?_setCell_other _ ⟨g,1,none⟩ ⟨g,0,none⟩ _ (by simp)).trans (World.cell?_setCell_same _ _ _ G0)
    have hb6' : Below w1.heap.size w1 ((wa.setCell ⟨g,0,none⟩ (.bool (encI (numv r * denv s + numv s * denv r)).neg)).setCell ⟨g,1,none⟩ (.slice B1 m1 d1)) := (hC.setCell (p := ⟨g,0,none⟩) hgw1 _).setCell (p := ⟨g,1,none⟩) hgw1 _
    have HB6' := hid hb6'
    have HK0 := hid K0; have HKK1 := hid K1; have HB6 := hid hb6
    have hz6 : ((wa.setCell ⟨g,0,none⟩ (.bool (encI (numv r * denv s + numv s * denv r)).neg)).setCell ⟨g,1,none⟩ (.slice B1 m1 d1)).heap.size = wa.heap.size := by simp
    have HZ6 := hid hz6
    have hgl := hgw.2
    clear hd hdis hs12 hf12 hr12 hr13 hg hgt k1 k2 K0 K1 hb6 hb6' hz6 ha12 hz12 hz13
    obtain ⟨hc_wa,hf_wa⟩ := bcell hC
    have hz0_wa : w.heap.size < wa.heap.size := by have := hC.size; (try simp at this); omega
    have hz1_wa : w.heap.size + 1 < wa.heap.size := by have := hC.size; (try simp at this); omega
    have hz2_wa : w.heap.size + 1 + 1 < wa.heap.size := by have := hC.size; (try simp at this); omega
    go_wp2_with fail
    generalize ((wa.setCell ⟨g,0,none⟩ (.bool (encI (numv r * denv s + numv s * denv r)).neg)).setCell ⟨g,1,none⟩ (.slice B1 m1 d1)) = W6 at *
    have hgl6 : g < W6.heap.size := by have := HZ6.out; omega
    have kk0 := HK0.out
    have kk1 := HKK1.out
    obtain ⟨hc_6,hf_6⟩ := bcell HB6'.out
    have hz6s : w1.heap.size ≤ W6.heap.size := HB6'.out.size
    have hz6a : w.heap.size < W6.heap.size := by omega
    have hz6b : w.heap.size + 1 < W6.heap.size := by omega
    have hz6c : w.heap.size + 1 + 1 < W6.heap.size := by omega
    clear G0 G1 F0 F1 hc_wa hf_wa e12 e13 hC hz0_wa hz1_wa hz2_wa
    have hbW := HB6.out
    refine wp_region_last (by simp) (by kernel_rfl) (by kernel_rfl) (by kernel_rfl) (by kernel_rfl) ?_
    dsimp only [List.dropLast,List.getLast,List.length]
    iterate 5
     apply walkM_eq
     case h =>
      intro yq zq wq hC hd
      obtain ⟨hcq,hfq⟩ := bcell hC
      simp at hd
      refine ⟨by go_simp; done, ?_⟩
      go_simp
      first | (go_ints; exact rfl) | (go_ints; rw [if_pos (by omega)]; try exact rfl) | exact rfl | (rw [if_pos (by omega)]; try exact rfl)
    refine walkM_call (MP.sl (dig (denv r * denv s).toNat)) ?_ ?_
    ·intro yq zq wq hC hd
     obtain ⟨hcq,hfq⟩ := bcell hC
     simp at hd
     refine ⟨by go_simp; done, ?_⟩
     apply Exists.intro
     apply Exists.intro
     constructor
     ·go_simp
      exact ⟨rfl,rfl⟩
     ·exact gives_sl (impl_natMul A2 A4 n2 n4 c2 c4 r.den s.den _ _ wq (Sl.below H2.out Below.go) (Sl.below H4.out Below.go) VR.out.den.1 VS.out.den.1 (by rw [← H2.out.1]; exact Nat.le_trans VR.out.den24 (by decide)) (by rw [← H4.out.1]; exact Nat.le_trans VS.out.den24 (by decide)))
    refine walkM_call (MP.agg (mkR (numv r * denv s + numv s * denv r) (denv r * denv s))) ?_ ?_
    ·intro yq zq wq hC hd
     obtain ⟨hcq,hfq⟩ := bcell hC
     simp at hd
     refine ⟨by go_simp; done, ?_⟩
     apply Exists.intro
     apply Exists.intro
     constructor
     ·go_simp
      exact ⟨rfl,rfl⟩
     ·obtain ⟨_,⟨A',n',c',e5,hs2⟩, _⟩ := hd
      rw [e5]
      have hl := hs2.1
      have C := red_new (TBigInt.mkAgg (Sl.below HK1.out hC)) hs2 (encI_can _) DD.out.can (by rw [← hl]; exact DD.out.pos) LT.out (by rw [← hl]; exact DD.out.le) (enc_negok _) (by rw [← hl]; exact HS.out)
      rw [ival_enc,DD.out.v] at C
      exact gives_agg C
    intro yq zq wb hC hd hdis0
    have hdis := hid hdis0
    clear hdis0
    simp at hd
    have q6 := hd.2.2.2.2.2.2
    obtain ⟨⟨ha,hf⟩,hr⟩ := q6
    obtain ⟨B3,m3,d3,t3,B4,m4,d4,t4,e6,hz,hs1,hs2⟩ := TRat.agg ha
    have HA := hid ha; have HF := hid hf; have HR := hid hr
    clear hd hdis hz hs1 hs2 ha hf hr
    obtain ⟨hc_wb,hf_wb⟩ := bcell hC
    have hz0_wb : w.heap.size < wb.heap.size := by have := hC.size; (try simp at this); omega
    have hz1_wb : w.heap.size + 1 < wb.heap.size := by have := hC.size; (try simp at this); omega
    have hz2_wb : w.heap.size + 1 + 1 < wb.heap.size := by have := hC.size; (try simp at this); omega
    go_wp2
    refine bodyPost_ret (v := .agg #[.bool (mkR (numv r * denv s + numv s * denv r) (denv r * denv s)).num.neg, .slice B3 m3 d3, .slice B4 m4 d4]) (by simp [results,Tryz.results106,go_sem, *]) rfl ?_
    rw [e6] at HA
    refine agg_fin (lo := w.heap.size + 3) HA.out HF.out (fun b hb => by have := (HR.out b hb).1; omega) (by omega) ?_ ?_
    ·exact Above.go
    ·exact Below.go
   ·have Ss := hid (show smallB s = false by cases h : smallB s; rfl; exact absurd ⟨hsr,h⟩ hsm)
    have Sr := hid hsr
    clear hsr hsm
    go_enter Tryz.func106,Tryz.ntmps106
    go_wp2_with fail
    have C := impl_isSmall _ r _ (((w.alloc (.cells #[.bool r.num.neg, .slice A1 n1 c1, .slice A2 n2 c2] 32)).alloc (.cells #[.bool s.num.neg, .slice A3 n3 c3, .slice A4 n4 c4] 32)).alloc (.cells #[.bool false, .slice none 0 0, .slice none 0 0] 32)) (Agg.below HX.out Below.go)
    rw [Sr.out] at C
    refine C.mono ?_
    clear C
    rintro _ w1 ⟨rfl,hb1⟩
    obtain ⟨hc_w1,hf_w1⟩ := bcell hb1
    have hz0_w1 : w.heap.size < w1.heap.size := by have := hb1.size; (try simp at this); omega
    have hz1_w1 : w.heap.size + 1 < w1.heap.size := by have := hb1.size; (try simp at this); omega
    have hz2_w1 : w.heap.size + 1 + 1 < w1.heap.size := by have := hb1.size; (try simp at this); omega
    go_wp2_with fail
    have C := impl_isSmall _ s _ w1 (Agg.below HY.out Below.go)
    rw [Ss.out] at C
    refine C.mono ?_
    clear C
    rintro _ w2 ⟨rfl,hb2⟩
    obtain ⟨hc_w2,hf_w2⟩ := bcell hb2
    have hz0_w2 : w.heap.size < w2.heap.size := by have := hb2.size; (try simp at this); omega
    have hz1_w2 : w.heap.size + 1 < w2.heap.size := by have := hb2.size; (try simp at this); omega
    have hz2_w2 : w.heap.size + 1 + 1 < w2.heap.size := by have := hb2.size; (try simp at this); omega
    go_wp2_with fail
    refine wp_region_last (by simp) (by kernel_rfl) (by kernel_rfl) (by kernel_rfl) (by kernel_rfl) ?_
    dsimp only [List.dropLast,List.getLast,List.length]
    iterate 5
     apply walkM_eq
     case h =>
      intro yq zq wq hC hd
      obtain ⟨hcq,hfq⟩ := bcell hC
      simp at hd
      refine ⟨by go_simp; done, ?_⟩
      go_simp
      first | (go_ints; exact rfl) | (go_ints; rw [if_pos (by omega)]; try exact rfl) | exact rfl | (rw [if_pos (by omega)]; try exact rfl)
    refine walkM_call (MP.agg (encI (numv r * denv s))) ?_ ?_
    ·intro yq zq wq hC hd
     obtain ⟨hcq,hfq⟩ := bcell hC
     simp at hd
     refine ⟨by go_simp; done, ?_⟩
     apply Exists.intro
     apply Exists.intro
     constructor
     ·go_simp
      exact ⟨rfl,rfl⟩
     ·have D := den_big (r := s) (Sl.below H4.out (show Below w.heap.size w wq from Below.go))
      have C := impl_bigMul _ _ r.num ⟨false,s.den⟩ _ _ wq (TBigInt.mkAgg (Sl.below H1.out Below.go)) D.1 VR.out.mag.1 VS.out.den.1 (Nat.le_trans VR.out.num24 (by decide)) (Nat.le_trans VS.out.den24 (by decide))
      rw [D.2] at C
      exact gives_agg C
    iterate 5
     apply walkM_eq
     case h =>
      intro yq zq wq hC hd
      obtain ⟨hcq,hfq⟩ := bcell hC
      simp at hd
      refine ⟨by go_simp; done, ?_⟩
      go_simp
      first | (go_ints; exact rfl) | (go_ints; rw [if_pos (by omega)]; try exact rfl) | exact rfl | (rw [if_pos (by omega)]; try exact rfl)
    refine walkM_call (MP.agg (encI (numv s * denv r))) ?_ ?_
    ·intro yq zq wq hC hd
     obtain ⟨hcq,hfq⟩ := bcell hC
     simp at hd
     refine ⟨by go_simp; done, ?_⟩
     apply Exists.intro
     apply Exists.intro
     constructor
     ·go_simp
      exact ⟨rfl,rfl⟩
     ·have D := den_big (r := r) (Sl.below H2.out (show Below w.heap.size w wq from Below.go))
      have C := impl_bigMul _ _ s.num ⟨false,r.den⟩ _ _ wq (TBigInt.mkAgg (Sl.below H3.out Below.go)) D.1 VS.out.mag.1 VR.out.den.1 (Nat.le_trans VS.out.num24 (by decide)) (Nat.le_trans VR.out.den24 (by decide))
      rw [D.2] at C
      exact gives_agg C
    refine walkM_call (MP.agg (encI (numv r * denv s + numv s * denv r))) ?_ ?_
    ·intro yq zq wq hC hd
     obtain ⟨hcq,hfq⟩ := bcell hC
     simp at hd
     refine ⟨by go_simp; done, ?_⟩
     apply Exists.intro
     apply Exists.intro
     constructor
     ·go_simp
      exact ⟨rfl,rfl⟩
     ·obtain ⟨⟨ha, _⟩,hb, _⟩ := hd
      have C := impl_bigAdd _ _ _ _ _ _ wq ha hb (encI_can _) (encI_can _) (Nat.le_trans (enc_len (len_mul VR.out.numlt VS.out.denlt)) (by decide)) (Nat.le_trans (enc_len (len_mul VS.out.numlt VR.out.denlt)) (by decide))
      rw [ival_enc,ival_enc] at C
      exact gives_agg C
    refine walkM_new #[.bool false, .slice none 0 0] 30 ?_ ?_
    ·intro yq zq wq hC hd
     refine ⟨by go_simp; done, ?_⟩
     go_simp
    intro yq zq wa hC hd hdis0
    have hdis := hid hdis0
    clear hdis0
    simp at hd
    have q12 := hd.2.2.2.2.2.2.2.2.2.2.2.2.1
    have q13 := hd.2.2.2.2.2.2.2.2.2.2.2.2.2
    obtain ⟨⟨ha12,hf12⟩,hr12⟩ := q12
    obtain ⟨B1,m1,d1,t1,e12,hz12,hs12⟩ := TBigInt.agg ha12
    obtain ⟨⟨g,e13,hz13,hg⟩,hr13⟩ := q13
    have hgt : ∀ b ∈ t1,b ≠ g := fun b hb e => by
     have := hdis.out 12 13 (by decide) (by decide) (by decide) b (by rw [hz12]; exact hb)
     rw [hz13] at this; simp at this; exact this e
    rw [hz12] at hf12 hr12
    have hgw : w2.heap.size ≤ g ∧ g < wa.heap.size := by have := hr13 g (by rw [hz13]; simp); omega
    have hgw1 := hgw.1
    obtain ⟨G0,F0⟩ := box_cell hg (j := 0) rfl
    obtain ⟨G1,F1⟩ := box_cell hg (j := 1) rfl
    obtain ⟨k1,k2⟩ := keep_sl hs12 hf12 hgt (.bool (encI (numv r * denv s + numv s * denv r)).neg) (.slice B1 m1 d1)
    have HK1 := hid k1; have HK2 := hid k2
    have HR1 := hid (fun b hb => (hr12 b hb).1)
    have hb6 : Below w.heap.size w ((wa.setCell ⟨g,0,none⟩ (.bool (encI (numv r * denv s + numv s * denv r)).neg)).setCell ⟨g,1,none⟩ (.slice B1 m1 d1)) := Below.go
    have K1 : ((wa.setCell ⟨g,0,none⟩ (.bool (encI (numv r * denv s + numv s * denv r)).neg)).setCell ⟨g,1,none⟩ (.slice B1 m1 d1)).cell? ⟨g,1,none⟩ = some (.slice B1 m1 d1) :=
     World.cell?_setCell_same _ _ _ ((World.cell?_setCell_other wa ⟨g,0,none⟩ ⟨g,1,none⟩ _ (by simp)).trans G1)
    have K0 : ((wa.setCell ⟨g,0,none⟩ (.bool (encI (numv r * denv s + numv s * denv r)).neg)).setCell ⟨g,1,none⟩ (.slice B1 m1 d1)).cell? ⟨g,0,none⟩ = some (.bool (encI (numv r * denv s + numv s * denv r)).neg) :=
     (World.cell?_setCell_other _ ⟨g,1,none⟩ ⟨g,0,none⟩ _ (by simp)).trans (World.cell?_setCell_same _ _ _ G0)
    have hb6' : Below w2.heap.size w2 ((wa.setCell ⟨g,0,none⟩ (.bool (encI (numv r * denv s + numv s * denv r)).neg)).setCell ⟨g,1,none⟩ (.slice B1 m1 d1)) := (hC.setCell (p := ⟨g,0,none⟩) hgw1 _).setCell (p := ⟨g,1,none⟩) hgw1 _
    have HB6' := hid hb6'
    have HK0 := hid K0; have HKK1 := hid K1; have HB6 := hid hb6
    have hz6 : ((wa.setCell ⟨g,0,none⟩ (.bool (encI (numv r * denv s + numv s * denv r)).neg)).setCell ⟨g,1,none⟩ (.slice B1 m1 d1)).heap.size = wa.heap.size := by simp
    have HZ6 := hid hz6
    have hgl := hgw.2
    clear hd hdis hs12 hf12 hr12 hr13 hg hgt k1 k2 K0 K1 hb6 hb6' hz6 ha12 hz12 hz13
    obtain ⟨hc_wa,hf_wa⟩ := bcell hC
    have hz0_wa : w.heap.size < wa.heap.size := by have := hC.size; (try simp at this); omega
    have hz1_wa : w.heap.size + 1 < wa.heap.size := by have := hC.size; (try simp at this); omega
    have hz2_wa : w.heap.size + 1 + 1 < wa.heap.size := by have := hC.size; (try simp at this); omega
    go_wp2_with fail
    generalize ((wa.setCell ⟨g,0,none⟩ (.bool (encI (numv r * denv s + numv s * denv r)).neg)).setCell ⟨g,1,none⟩ (.slice B1 m1 d1)) = W6 at *
    have hgl6 : g < W6.heap.size := by have := HZ6.out; omega
    have kk0 := HK0.out
    have kk1 := HKK1.out
    obtain ⟨hc_6,hf_6⟩ := bcell HB6'.out
    have hz6s : w2.heap.size ≤ W6.heap.size := HB6'.out.size
    have hz6a : w.heap.size < W6.heap.size := by omega
    have hz6b : w.heap.size + 1 < W6.heap.size := by omega
    have hz6c : w.heap.size + 1 + 1 < W6.heap.size := by omega
    clear G0 G1 F0 F1 hc_wa hf_wa e12 e13 hC hz0_wa hz1_wa hz2_wa
    have hbW := HB6.out
    refine wp_region_last (by simp) (by kernel_rfl) (by kernel_rfl) (by kernel_rfl) (by kernel_rfl) ?_
    dsimp only [List.dropLast,List.getLast,List.length]
    iterate 5
     apply walkM_eq
     case h =>
      intro yq zq wq hC hd
      obtain ⟨hcq,hfq⟩ := bcell hC
      simp at hd
      refine ⟨by go_simp; done, ?_⟩
      go_simp
      first | (go_ints; exact rfl) | (go_ints; rw [if_pos (by omega)]; try exact rfl) | exact rfl | (rw [if_pos (by omega)]; try exact rfl)
    refine walkM_call (MP.sl (dig (denv r * denv s).toNat)) ?_ ?_
    ·intro yq zq wq hC hd
     obtain ⟨hcq,hfq⟩ := bcell hC
     simp at hd
     refine ⟨by go_simp; done, ?_⟩
     apply Exists.intro
     apply Exists.intro
     constructor
     ·go_simp
      exact ⟨rfl,rfl⟩
     ·exact gives_sl (impl_natMul A2 A4 n2 n4 c2 c4 r.den s.den _ _ wq (Sl.below H2.out Below.go) (Sl.below H4.out Below.go) VR.out.den.1 VS.out.den.1 (by rw [← H2.out.1]; exact Nat.le_trans VR.out.den24 (by decide)) (by rw [← H4.out.1]; exact Nat.le_trans VS.out.den24 (by decide)))
    refine walkM_call (MP.agg (mkR (numv r * denv s + numv s * denv r) (denv r * denv s))) ?_ ?_
    ·intro yq zq wq hC hd
     obtain ⟨hcq,hfq⟩ := bcell hC
     simp at hd
     refine ⟨by go_simp; done, ?_⟩
     apply Exists.intro
     apply Exists.intro
     constructor
     ·go_simp
      exact ⟨rfl,rfl⟩
     ·obtain ⟨_,⟨A',n',c',e5,hs2⟩, _⟩ := hd
      rw [e5]
      have hl := hs2.1
      have C := red_new (TBigInt.mkAgg (Sl.below HK1.out hC)) hs2 (encI_can _) DD.out.can (by rw [← hl]; exact DD.out.pos) LT.out (by rw [← hl]; exact DD.out.le) (enc_negok _) (by rw [← hl]; exact HS.out)
      rw [ival_enc,DD.out.v] at C
      exact gives_agg C
    intro yq zq wb hC hd hdis0
    have hdis := hid hdis0
    clear hdis0
    simp at hd
    have q6 := hd.2.2.2.2.2.2
    obtain ⟨⟨ha,hf⟩,hr⟩ := q6
    obtain ⟨B3,m3,d3,t3,B4,m4,d4,t4,e6,hz,hs1,hs2⟩ := TRat.agg ha
    have HA := hid ha; have HF := hid hf; have HR := hid hr
    clear hd hdis hz hs1 hs2 ha hf hr
    obtain ⟨hc_wb,hf_wb⟩ := bcell hC
    have hz0_wb : w.heap.size < wb.heap.size := by have := hC.size; (try simp at this); omega
    have hz1_wb : w.heap.size + 1 < wb.heap.size := by have := hC.size; (try simp at this); omega
    have hz2_wb : w.heap.size + 1 + 1 < wb.heap.size := by have := hC.size; (try simp at this); omega
    go_wp2
    refine bodyPost_ret (v := .agg #[.bool (mkR (numv r * denv s + numv s * denv r) (denv r * denv s)).num.neg, .slice B3 m3 d3, .slice B4 m4 d4]) (by simp [results,Tryz.results106,go_sem, *]) rfl ?_
    rw [e6] at HA
    refine agg_fin (lo := w.heap.size + 3) HA.out HF.out (fun b hb => by have := (HR.out b hb).1; omega) (by omega) ?_ ?_
    ·exact Above.go
    ·exact Below.go

theorem _root_.Go.XN.RatV.neg {x : TRat} (h : RatV x) : RatV ⟨encI (-numv x),x.den⟩ := by
 have e : encI (-numv x) = ⟨!x.num.neg && !x.num.mag.isEmpty,x.num.mag⟩ := by unfold numv; exact neg_enc h.num
 have hb := bigOkB_iff.1 h.num
 refine ⟨?_,h.den,h.den0, ?_,h.den24, ?_⟩
 ·show bigOkB (encI (-numv x)) = true
  rw [e,bigOkB_iff]
  refine ⟨hb.1,fun hn => ?_⟩
  simp at hn
  simp only
  intro e0; rw [e0] at hn; simp at hn
 ·show (encI (-numv x)).mag.length ≤ 24
  rw [e]; exact h.num24
 ·show Int.gcd (val (encI (-numv x)).mag) (val x.den) = 1
  rw [e]; exact h.one
theorem numv_neg (x : TRat) : numv ⟨encI (-numv x),x.den⟩ = -numv x ∧ denv ⟨encI (-numv x),x.den⟩ = denv x := ⟨by show ival (encI (-numv x)) = _; rw [ival_enc],rfl⟩
set_option maxHeartbeats 4000000 in
theorem impl_RatAdd (v1 v2 : Value) (r s : TRat) (b1 b2 : List Nat) (w : World) (hx : Agg w v1 r b1) (hy : Agg w v2 s b2) :
  Calls Tryz.prog 60 #[v1,v2] w (GivesAgg w (radd r s)) := by
 have HX := hid hx; have HY := hid hy
 obtain ⟨A1,n1,c1,s1,A2,n2,c2,s2,rfl,rfl,hs1,hs2⟩ := TRat.agg hx
 obtain ⟨A3,n3,c3,s3,A4,n4,c4,s4,rfl,rfl,hs3,hs4⟩ := TRat.agg hy
 have H1 := hid hs1; have H2 := hid hs2; have H3 := hid hs3; have H4 := hid hs4
 clear hs1 hs2 hs3 hs4 hx hy
 cases hok : ratOkB r && ratOkB s
 ·have E := hid (show radd r s = zeroR by unfold radd; rw [hok]; rfl)
  have OK := hid (ok_two hok)
  clear hok
  go_enter Tryz.func60,Tryz.ntmps60
  go_wp2_with fail
  have C := impl_areRats (some ⟨w.heap.size + 1 + 1 + 1,0,none⟩) 2 2 [r,s] _ ((((w.alloc (.cells #[.bool r.num.neg, .slice A1 n1 c1, .slice A2 n2 c2] 32)).alloc (.cells #[.bool s.num.neg, .slice A3 n3 c3, .slice A4 n4 c4] 32)).alloc (.cells #[.bool false, .slice none 0 0, .slice none 0 0] 32)).alloc (.cells #[.bool r.num.neg, .slice A1 n1 c1, .slice A2 n2 c2, .bool s.num.neg, .slice A3 n3 c3, .slice A4 n4 c4] 32)) (sl_two (Agg.below HX.out Below.go) (Agg.below HY.out Below.go) (by simp) (by go_simp) (by go_simp) (by go_simp) (by go_simp) (by go_simp) (by go_simp))
  rw [OK.out] at C
  refine C.mono ?_
  clear C
  rintro _ w1 ⟨rfl,hb1⟩
  obtain ⟨hc_w1,hf_w1⟩ := bcell hb1
  have hz0_w1 : w.heap.size < w1.heap.size := by have := hb1.size; (try simp at this); omega
  have hz1_w1 : w.heap.size + 1 < w1.heap.size := by have := hb1.size; (try simp at this); omega
  have hz2_w1 : w.heap.size + 1 + 1 < w1.heap.size := by have := hb1.size; (try simp at this); omega
  have hz3_w1 : w.heap.size + 1 + 1 + 1 < w1.heap.size := by have := hb1.size; (try simp at this); omega
  go_wp2
  refine bodyPost_ret (v := .agg #[.bool false, .slice none 0 0, .slice none 0 0]) (by simp [results,Tryz.results60,go_sem, *]) rfl ?_
  rw [E.out]
  exact gives_zero Below.go
 ·have E := hid (show radd r s = (mkR (numv r * denv s + numv s * denv r) (denv r * denv s)) by unfold radd; rw [hok]; rfl)
  have OK := hid (ok_two hok)
  rw [Bool.and_eq_true] at hok
  have VR := hid (ratOkB_iff.1 hok.1); have VS := hid (ratOkB_iff.1 hok.2)
  clear hok
  go_enter Tryz.func60,Tryz.ntmps60
  go_wp2_with fail
  have C := impl_areRats (some ⟨w.heap.size + 1 + 1 + 1,0,none⟩) 2 2 [r,s] _ ((((w.alloc (.cells #[.bool r.num.neg, .slice A1 n1 c1, .slice A2 n2 c2] 32)).alloc (.cells #[.bool s.num.neg, .slice A3 n3 c3, .slice A4 n4 c4] 32)).alloc (.cells #[.bool false, .slice none 0 0, .slice none 0 0] 32)).alloc (.cells #[.bool r.num.neg, .slice A1 n1 c1, .slice A2 n2 c2, .bool s.num.neg, .slice A3 n3 c3, .slice A4 n4 c4] 32)) (sl_two (Agg.below HX.out Below.go) (Agg.below HY.out Below.go) (by simp) (by go_simp) (by go_simp) (by go_simp) (by go_simp) (by go_simp) (by go_simp))
  rw [OK.out] at C
  refine C.mono ?_
  clear C
  rintro _ w1 ⟨rfl,hb1⟩
  obtain ⟨hc_w1,hf_w1⟩ := bcell hb1
  have hz0_w1 : w.heap.size < w1.heap.size := by have := hb1.size; (try simp at this); omega
  have hz1_w1 : w.heap.size + 1 < w1.heap.size := by have := hb1.size; (try simp at this); omega
  have hz2_w1 : w.heap.size + 1 + 1 < w1.heap.size := by have := hb1.size; (try simp at this); omega
  have hz3_w1 : w.heap.size + 1 + 1 + 1 < w1.heap.size := by have := hb1.size; (try simp at this); omega
  go_wp2_with fail
  refine (impl_plus _ _ r s _ _ w1 (Agg.below HX.out Below.go) (Agg.below HY.out Below.go) VR.out VS.out).mono ?_
  rintro _ w6 ⟨v,bs,rfl,ha,ho,hb⟩
  obtain ⟨B1,m1,d1,t1,B2,m2,d2,t2,rfl,hz,hs1,hs2⟩ := TRat.agg ha
  have HA := hid ha; have HO := hid ho
  clear hz hs1 hs2 ha ho
  obtain ⟨hc_w6,hf_w6⟩ := bcell hb
  have hz0_w6 : w.heap.size < w6.heap.size := by have := hb.size; (try simp at this); omega
  have hz1_w6 : w.heap.size + 1 < w6.heap.size := by have := hb.size; (try simp at this); omega
  have hz2_w6 : w.heap.size + 1 + 1 < w6.heap.size := by have := hb.size; (try simp at this); omega
  have hz3_w6 : w.heap.size + 1 + 1 + 1 < w6.heap.size := by have := hb.size; (try simp at this); omega
  go_wp2
  refine bodyPost_ret (v := .agg #[.bool (mkR (numv r * denv s + numv s * denv r) (denv r * denv s)).num.neg, .slice B1 m1 d1, .slice B2 m2 d2]) (by simp [results,Tryz.results60,go_sem, *]) rfl ?_
  rw [E.out]
  refine agg_fin (lo := w.heap.size + 4) HA.out HO.out.free (fun b hb => by have := (HO.out.2 b hb).1; (try simp at this); omega) (by omega) ?_ ?_
  ·exact Above.go
  ·exact Below.go

set_option maxHeartbeats 4000000 in
theorem impl_RatSub (v1 v2 : Value) (r s : TRat) (b1 b2 : List Nat) (w : World) (hx : Agg w v1 r b1) (hy : Agg w v2 s b2) :
  Calls Tryz.prog 84 #[v1,v2] w (GivesAgg w (rsub r s)) := by
 have HX := hid hx; have HY := hid hy
 obtain ⟨A1,n1,c1,s1,A2,n2,c2,s2,rfl,rfl,hs1,hs2⟩ := TRat.agg hx
 obtain ⟨A3,n3,c3,s3,A4,n4,c4,s4,rfl,rfl,hs3,hs4⟩ := TRat.agg hy
 have H1 := hid hs1; have H2 := hid hs2; have H3 := hid hs3; have H4 := hid hs4
 clear hs1 hs2 hs3 hs4 hx hy
 cases hok : ratOkB r && ratOkB s
 ·have E := hid (show rsub r s = zeroR by unfold rsub; rw [hok]; rfl)
  have OK := hid (ok_two hok)
  clear hok
  go_enter Tryz.func84,Tryz.ntmps84
  go_wp2_with fail
  have C := impl_areRats (some ⟨w.heap.size + 1 + 1 + 1,0,none⟩) 2 2 [r,s] _ ((((w.alloc (.cells #[.bool r.num.neg, .slice A1 n1 c1, .slice A2 n2 c2] 32)).alloc (.cells #[.bool s.num.neg, .slice A3 n3 c3, .slice A4 n4 c4] 32)).alloc (.cells #[.bool false, .slice none 0 0, .slice none 0 0] 32)).alloc (.cells #[.bool r.num.neg, .slice A1 n1 c1, .slice A2 n2 c2, .bool s.num.neg, .slice A3 n3 c3, .slice A4 n4 c4] 32)) (sl_two (Agg.below HX.out Below.go) (Agg.below HY.out Below.go) (by simp) (by go_simp) (by go_simp) (by go_simp) (by go_simp) (by go_simp) (by go_simp))
  rw [OK.out] at C
  refine C.mono ?_
  clear C
  rintro _ w1 ⟨rfl,hb1⟩
  obtain ⟨hc_w1,hf_w1⟩ := bcell hb1
  have hz0_w1 : w.heap.size < w1.heap.size := by have := hb1.size; (try simp at this); omega
  have hz1_w1 : w.heap.size + 1 < w1.heap.size := by have := hb1.size; (try simp at this); omega
  have hz2_w1 : w.heap.size + 1 + 1 < w1.heap.size := by have := hb1.size; (try simp at this); omega
  have hz3_w1 : w.heap.size + 1 + 1 + 1 < w1.heap.size := by have := hb1.size; (try simp at this); omega
  go_wp2
  refine bodyPost_ret (v := .agg #[.bool false, .slice none 0 0, .slice none 0 0]) (by simp [results,Tryz.results84,go_sem, *]) rfl ?_
  rw [E.out]
  exact gives_zero Below.go
 ·have E := hid (show rsub r s = (mkR (numv r * denv s - numv s * denv r) (denv r * denv s)) by unfold rsub; rw [hok]; rfl)
  have OK := hid (ok_two hok)
  rw [Bool.and_eq_true] at hok
  have VR := hid (ratOkB_iff.1 hok.1); have VS := hid (ratOkB_iff.1 hok.2)
  clear hok
  go_enter Tryz.func84,Tryz.ntmps84
  go_wp2_with fail
  have C := impl_areRats (some ⟨w.heap.size + 1 + 1 + 1,0,none⟩) 2 2 [r,s] _ ((((w.alloc (.cells #[.bool r.num.neg, .slice A1 n1 c1, .slice A2 n2 c2] 32)).alloc (.cells #[.bool s.num.neg, .slice A3 n3 c3, .slice A4 n4 c4] 32)).alloc (.cells #[.bool false, .slice none 0 0, .slice none 0 0] 32)).alloc (.cells #[.bool r.num.neg, .slice A1 n1 c1, .slice A2 n2 c2, .bool s.num.neg, .slice A3 n3 c3, .slice A4 n4 c4] 32)) (sl_two (Agg.below HX.out Below.go) (Agg.below HY.out Below.go) (by simp) (by go_simp) (by go_simp) (by go_simp) (by go_simp) (by go_simp) (by go_simp))
  rw [OK.out] at C
  refine C.mono ?_
  clear C
  rintro _ w1 ⟨rfl,hb1⟩
  obtain ⟨hc_w1,hf_w1⟩ := bcell hb1
  have hz0_w1 : w.heap.size < w1.heap.size := by have := hb1.size; (try simp at this); omega
  have hz1_w1 : w.heap.size + 1 < w1.heap.size := by have := hb1.size; (try simp at this); omega
  have hz2_w1 : w.heap.size + 1 + 1 < w1.heap.size := by have := hb1.size; (try simp at this); omega
  have hz3_w1 : w.heap.size + 1 + 1 + 1 < w1.heap.size := by have := hb1.size; (try simp at this); omega
  go_wp2_with fail
  refine wp_region_last (by simp) (by kernel_rfl) (by kernel_rfl) (by kernel_rfl) (by kernel_rfl) ?_
  dsimp only [List.dropLast,List.getLast,List.length]
  iterate 2
   apply walkM_eq
   case h =>
    intro yq zq wq hC hd
    obtain ⟨hcq,hfq⟩ := bcell hC
    simp at hd
    refine ⟨by go_simp; done, ?_⟩
    go_simp
    first | (go_ints; exact rfl) | (go_ints; rw [if_pos (by omega)]; try exact rfl) | exact rfl | (rw [if_pos (by omega)]; try exact rfl)
  refine walkM_call (MP.aggS (⟨encI (-numv s),s.den⟩ : TRat)) ?_ ?_
  ·intro yq zq wq hC hd
   obtain ⟨hcq,hfq⟩ := bcell hC
   simp at hd
   refine ⟨by go_simp; done, ?_⟩
   apply Exists.intro
   apply Exists.intro
   constructor
   ·go_simp
    exact ⟨rfl,rfl⟩
   ·exact gives_aggS (impl_negative _ s _ wq (Agg.below HY.out Below.go) VS.out.num)
  refine walkM_call (MP.agg (mkR (numv r * denv s - numv s * denv r) (denv r * denv s))) ?_ ?_
  ·intro yq zq wq hC hd
   obtain ⟨hcq,hfq⟩ := bcell hC
   simp at hd
   refine ⟨by go_simp; done, ?_⟩
   apply Exists.intro
   apply Exists.intro
   constructor
   ·go_simp
    exact ⟨rfl,rfl⟩
   ·obtain ⟨_, _,t,ha⟩ := hd
    have C := impl_plus _ _ r ⟨encI (-numv s),s.den⟩ _ t wq (Agg.below HX.out Below.go) ha VR.out VS.out.neg
    rw [(numv_neg s).1,(numv_neg s).2,Int.neg_mul, ← Int.sub_eq_add_neg] at C
    exact gives_agg C
  intro yq zq wa hC hd hdis0
  have hdis := hid hdis0
  clear hdis0
  simp at hd
  have q3 := hd.2.2.2
  obtain ⟨⟨ha,hf⟩,hr⟩ := q3
  obtain ⟨B3,m3,d3,t3,B4,m4,d4,t4,e3,hz,hs1,hs2⟩ := TRat.agg ha
  have HA := hid ha; have HF := hid hf; have HR := hid hr
  clear hd hdis hz hs1 hs2 ha hf hr
  obtain ⟨hc_wa,hf_wa⟩ := bcell hC
  have hz0_wa : w.heap.size < wa.heap.size := by have := hC.size; (try simp at this); omega
  have hz1_wa : w.heap.size + 1 < wa.heap.size := by have := hC.size; (try simp at this); omega
  have hz2_wa : w.heap.size + 1 + 1 < wa.heap.size := by have := hC.size; (try simp at this); omega
  have hz3_wa : w.heap.size + 1 + 1 + 1 < wa.heap.size := by have := hC.size; (try simp at this); omega
  go_wp2
  refine bodyPost_ret (v := .agg #[.bool (mkR (numv r * denv s - numv s * denv r) (denv r * denv s)).num.neg, .slice B3 m3 d3, .slice B4 m4 d4]) (by simp [results,Tryz.results84,go_sem, *]) rfl ?_
  rw [E.out]
  rw [e3] at HA
  refine agg_fin (lo := w.heap.size + 4) HA.out HF.out (fun b hb => by have := (HR.out b hb).1; omega) (by omega) ?_ ?_
  ·exact Above.go
  ·exact Below.go

set_option maxHeartbeats 400000 in
theorem impl_isRat (v : Value) (x : TRat) (b : List Nat) (w : World) (hx : Agg w v x b) :
  Calls Tryz.prog 62 #[v] w (Gives w (.bool (!x.den.isEmpty))) := by
 obtain ⟨A1,n1,c1,s1,A2,n2,c2,s2,rfl,rfl,hs1,hs2⟩ := TRat.agg hx
 have E := hid (show decide (0 < n2) = !x.den.isEmpty by rw [← hs2.1]; cases x.den <;> simp)
 clear hs1 hs2 hx
 go_enter Tryz.func62,Tryz.ntmps62
 go_wp2
 go_ret
 exact ⟨ret_bool E.out,Below.go⟩
end Go.Proofs.YtpfipnankjeokaaGreat.X
