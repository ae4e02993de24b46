/- Part of a claim's proof: texts of this repository's wip,joined by prune.py,without the theorems that the claim does not reach. -/
import Derived.Test.YtpfipnankjeokaaGreatY11
import Derived.Test.YtpfipnankjeokaaGreatY4
import Derived.Test.YtpfipnankjeokaaGreatY12
set_option linter.constructorNameAsVariable false
namespace Go.XN
open Go.XB
def inner (p q : TPoint) : TRat := radd (rmul p.x q.x) (rmul p.y q.y)
def areaP (a b c : TPoint) : TRat := rmul (mkR 1 2) (darea a b c)
def centP (a b c : TPoint) : TPoint := pscale (mkR 1 3) (padd (padd a b) c)
def ptI (x y : Int) : TPoint := ⟨rint x,rint y⟩
end Go.XN
namespace Go.Proofs.YtpfipnankjeokaaGreat.X
open Go.RowKit Go.XB Go.XN
attribute [local go_sem] fillBy opAt deps depOf Region.wanted yielded
attribute [local simp] deps depOf MP.eq MP.agg MP.sl Facts

theorem seq_pt {w0 w1 w2 : World} {x : TPoint} {u0 u1 u2 u3 u4 u5 : Value} {b1 b2 : List Nat} (h1 : Agg w1 (.agg #[u0,u1,u2]) x.x b1) (o1 : Own w0 w1 b1) (h12 : Below w1.heap.size w1 w2) (h2 : Agg w2 (.agg #[u3,u4,u5]) x.y b2) (o2 : Own w1 w2 b2) (hw2 : w0.heap.size ≤ w1.heap.size) :
  Agg w2 (.agg #[u0,u1,u2,u3,u4,u5]) x (b1 ++ b2) ∧ Free w2 (b1 ++ b2) ∧ ∀ b ∈ b1 ++ b2,w0.heap.size ≤ b :=
 ⟨pt_join (h1.below h12) h2,Free.join (o1.free.below h12) o2.free (fun b hb hb2 => by have := o1.lt b hb; have := (o2.2 b hb2).1; omega),fun b hb => by
  rcases List.mem_append.1 hb with h | h
  ·exact (o1.2 b h).1
  ·have := (o2.2 b h).1; omega⟩

set_option maxHeartbeats 2000000 in
set_option maxRecDepth 10000 in
theorem spec_PointAt (x y : Int) (w : World) (hx : I64 x) (hy : I64 y) : Calls Tryz.prog 70 #[.int .i64 x, .int .i64 y] w (GivesAgg w (ptI x y)) := by
 have HX := hid hx; have HY := hid hy
 clear hx hy
 go_enter Tryz.func70,Tryz.ntmps70
 go_wp2_with fail
 refine (spec_RatFromInt x _ HX.out).mono ?_
 rintro _ w1 ⟨v1,s1,rfl,ha1,ho1,hb1⟩
 obtain ⟨B1,nB1,cB1,B1_,B2,nB2,cB2,B2_,rfl,hz1, _, _⟩ := TRat.agg ha1
 have HA1 := hid ha1; have HO1 := hid ho1
 clear ha1 ho1 hz1
 obtain ⟨hc_w1,hf_w1⟩ := bcell hb1
 have hz0_w1 : w.heap.size < w1.heap.size := by have := hb1.size; (try simp at this); omega
 go_wp2_with fail
 refine (spec_RatFromInt y _ HY.out).mono ?_
 rintro _ w2 ⟨v2,s2,rfl,ha2,ho2,hb2⟩
 obtain ⟨D1,nD1,cD1,D1_,D2,nD2,cD2,D2_,rfl,hz2, _, _⟩ := TRat.agg ha2
 have J := hid (seq_pt (x := ptI x y) HA1.out HO1.out hb2 ha2 ho2 (by have := hb1.size; exact this))
 clear ha2 ho2 hz2
 obtain ⟨hc_w2,hf_w2⟩ := bcell hb2
 have hz0_w2 : w.heap.size < w2.heap.size := by have := hb2.size; (try simp at this); omega
 go_wp2
 refine bodyPost_ret (v := .agg #[.bool (rint x).num.neg, .slice B1 nB1 cB1, .slice B2 nB2 cB2, .bool (rint y).num.neg, .slice D1 nD1 cD1, .slice D2 nD2 cD2]) (by simp [results,Tryz.results70,go_sem, *]) rfl ?_
 refine agg_fin (lo := w.heap.size + 1) J.out.1 J.out.2.1 (fun b hb => by have := J.out.2.2 b hb; (try simp at this); omega) (by omega) ?_ ?_
 ·exact Above.go
 ·exact Below.go

set_option maxHeartbeats 2000000 in
set_option maxRecDepth 10000 in
theorem impl_Inner (v1 v2 : Value) (p q : TPoint) (b1 b2 : List Nat) (w : World) (hx : Agg w v1 p b1) (hy : Agg w v2 q b2) :
  Calls Tryz.prog 18 #[v1,v2] w (GivesAgg w (inner p q)) := by
 have HX := hid hx; have HY := hid hy
 obtain ⟨A1,nA1,cA1,s1,A2,nA2,cA2,s2,A4,nA4,cA4,s4,A5,nA5,cA5,s5,rfl,rfl,hs1,hs2,hs4,hs5⟩ := TPoint.agg hx
 obtain ⟨B1,nB1,cB1,t1,B2,nB2,cB2,t2,B4,nB4,cB4,t4,B5,nB5,cB5,t5,rfl,rfl,ht1,ht2,ht4,ht5⟩ := TPoint.agg hy
 have P1 := hid (TRat.mkAgg (x := p.x) hs1 hs2); have P2 := hid (TRat.mkAgg (x := p.y) hs4 hs5)
 have Q1 := hid (TRat.mkAgg (x := q.x) ht1 ht2); have Q2 := hid (TRat.mkAgg (x := q.y) ht4 ht5)
 clear hs1 hs2 hs4 hs5 ht1 ht2 ht4 ht5 hx hy HX HY
 go_enter Tryz.func18,Tryz.ntmps18
 go_wp2_with fail
 refine wp_region_line 10 (by kernel_rfl) (by kernel_rfl) (by kernel_rfl) (by kernel_rfl) (by kernel_rfl) ?_
 simp only [List.take_succ_cons,List.take_zero,List.drop_succ_cons,List.drop_zero]
 iterate 4
  apply walkM_eq
  case h =>
   intro yq zq wq hC hd
   obtain ⟨hcq,hfq⟩ := bcell hC
   simp at hd
   refine ⟨by go_simp; done, ?_⟩
   go_simp
   first | (go_ints; exact rfl) | (go_ints; rw [if_pos (by omega)]; try exact rfl) | exact rfl | (rw [if_pos (by omega)]; try exact rfl)
 refine walkM_call (MP.agg (rmul p.x q.x)) ?_ ?_
 ·intro yq zq wq hC hd
  obtain ⟨hcq,hfq⟩ := bcell hC
  simp at hd
  refine ⟨by go_simp; done, ?_⟩
  apply Exists.intro
  apply Exists.intro
  constructor
  ·go_simp
   exact ⟨rfl,rfl⟩
  ·exact gives_agg (impl_RatMul _ _ p.x q.x _ _ wq (P1.out.below Below.go) (Q1.out.below Below.go))
 iterate 4
  apply walkM_eq
  case h =>
   intro yq zq wq hC hd
   obtain ⟨hcq,hfq⟩ := bcell hC
   simp at hd
   refine ⟨by go_simp; done, ?_⟩
   go_simp
   first | (go_ints; exact rfl) | (go_ints; rw [if_pos (by omega)]; try exact rfl) | exact rfl | (rw [if_pos (by omega)]; try exact rfl)
 refine walkM_call (MP.agg (rmul p.y q.y)) ?_ ?_
 ·intro yq zq wq hC hd
  obtain ⟨hcq,hfq⟩ := bcell hC
  simp at hd
  refine ⟨by go_simp; done, ?_⟩
  apply Exists.intro
  apply Exists.intro
  constructor
  ·go_simp
   exact ⟨rfl,rfl⟩
  ·exact gives_agg (impl_RatMul _ _ p.y q.y _ _ wq (P2.out.below Below.go) (Q2.out.below Below.go))
 intro yq zq wa hC hd hdis0
 have hdis := hid hdis0
 clear hdis0
 simp at hd
 have q4 := hd.2.2.2.2.1
 have q9 := hd.2.2.2.2.2.2.2.2.2
 have H4 := hid q4.1.1; have H9 := hid q9.1.1
 clear hd hdis q4 q9
 obtain ⟨hc_wa,hf_wa⟩ := bcell hC
 have hz0_wa : w.heap.size < wa.heap.size := by have := hC.size; (try simp at this); omega
 have hz1_wa : w.heap.size + 1 < wa.heap.size := by have := hC.size; (try simp at this); omega
 have hz2_wa : w.heap.size + 1 + 1 < wa.heap.size := by have := hC.size; (try simp at this); omega
 go_wp2_with fail
 refine (impl_RatAdd _ _ (rmul p.x q.x) (rmul p.y q.y) _ _ wa H4.out H9.out).mono ?_
 rintro _ wb ⟨vb,sb,rfl,hab,hob,hb⟩
 obtain ⟨D1,nD1,cD1,D1_,D2,nD2,cD2,D2_,rfl,hzb, _, _⟩ := TRat.agg hab
 have HAb := hid hab; have HOb := hid hob
 clear hab hob hzb
 obtain ⟨hc_wb,hf_wb⟩ := bcell hb
 have hz0_wb : w.heap.size < wb.heap.size := by have := hb.size; (try simp at this); omega
 have hz1_wb : w.heap.size + 1 < wb.heap.size := by have := hb.size; (try simp at this); omega
 have hz2_wb : w.heap.size + 1 + 1 < wb.heap.size := by have := hb.size; (try simp at this); omega
 go_wp2
 refine bodyPost_ret (v := .agg #[.bool (radd (rmul p.x q.x) (rmul p.y q.y)).num.neg, .slice D1 nD1 cD1, .slice D2 nD2 cD2]) (by simp [results,Tryz.results18,go_sem, *]) rfl ?_
 refine agg_fin (lo := w.heap.size + 3) HAb.out HOb.out.free (fun b hb => by have := (HOb.out.2 b hb).1; (try simp at this); omega) (by omega) ?_ ?_
 ·exact Above.go
 ·exact Below.go

set_option maxHeartbeats 2000000 in
set_option maxRecDepth 10000 in
theorem impl_area (A : Option Addr) (c : Nat) (a1 b1 c1 : TPoint) (bs : List Nat) (w : World) (hx : Sl w A 3 c [a1,b1,c1] bs) :
  Calls Tryz.prog 59 #[.slice A 3 c] w (GivesAgg w (areaP a1 b1 c1)) := by
 have HX := hid hx
 obtain ⟨be0,of0,a2,P1,nP1,cP1,p1,P2,nP2,cP2,p2,P4,nP4,cP4,p4,P5,nP5,cP5,p5,hA0,hbl0,hx0,Pe0,Pe1,Pe2,Pe3,Pe4,Pe5,hg0⟩ := TPoint.elemA HX.out (show 0 < 3 by decide)
 obtain ⟨be1,of1,b2,Q1,nQ1,cQ1,q1,Q2,nQ2,cQ2,q2,Q4,nQ4,cQ4,q4,Q5,nQ5,cQ5,q5,hA1,hbl1,hx1,Qe0,Qe1,Qe2,Qe3,Qe4,Qe5,hg1⟩ := TPoint.elemA HX.out (show 1 < 3 by decide)
 obtain ⟨be2,of2,c2,R1,nR1,cR1,r1,R2,nR2,cR2,r2,R4,nR4,cR4,r4,R5,nR5,cR5,r5,hA2,hbl2,hx2,Re0,Re1,Re2,Re3,Re4,Re5,hg2⟩ := TPoint.elemA HX.out (show 2 < 3 by decide)
 subst hA0
 injection hA1 with hA1; injection hA1 with h1 h2 _; subst h1; subst h2
 injection hA2 with hA2; injection hA2 with h1 h2 _; subst h1; subst h2
 simp at hx0 hx1 hx2
 subst hx0; subst hx1; subst hx2
 simp at Pe0 Pe1 Pe2 Pe3 Pe4 Pe5 Qe0 Qe1 Qe2 Qe3 Qe4 Qe5 Re0 Re1 Re2 Re3 Re4 Re5
 have HA := hid hg0; have HB := hid hg1; have HC := hid hg2
 clear hbl1 hbl2 hg0 hg1 hg2 hx
 go_enter Tryz.func59,Tryz.ntmps59
 go_wp2_with fail
 refine wp_region_line 11 (by kernel_rfl) (by kernel_rfl) (by kernel_rfl) (by kernel_rfl) (by kernel_rfl) ?_
 simp only [List.take_succ_cons,List.take_zero,List.drop_succ_cons,List.drop_zero]
 refine walkM_call (MP.agg (mkR 1 2)) ?_ ?_
 ·intro yq zq wq hC hd
  obtain ⟨hcq,hfq⟩ := bcell hC
  simp at hd
  refine ⟨by go_simp; done, ?_⟩
  apply Exists.intro
  apply Exists.intro
  constructor
  ·go_simp
   exact ⟨rfl,rfl⟩
  ·exact gives_agg (impl_half wq)
 iterate 9
  apply walkM_eq
  case h =>
   intro yq zq wq hC hd
   obtain ⟨hcq,hfq⟩ := bcell hC
   simp at hd
   refine ⟨by go_simp; done, ?_⟩
   go_simp
   first | (go_ints; exact rfl) | (go_ints; rw [if_pos (by omega)]; try exact rfl) | exact rfl | (rw [if_pos (by omega)]; try exact rfl)
 refine walkM_call (MP.agg (darea a1 b1 c1)) ?_ ?_
 ·intro yq zq wq hC hd
  obtain ⟨hcq,hfq⟩ := bcell hC
  simp at hd
  refine ⟨by go_simp; done, ?_⟩
  apply Exists.intro
  apply Exists.intro
  constructor
  ·go_simp
   exact ⟨rfl,rfl⟩
  ·exact gives_agg (impl_DoubleArea _ _ _ a1 b1 c1 _ _ _ wq (HA.out.below Below.go) (HB.out.below Below.go) (HC.out.below Below.go))
 intro yq zq wa hC hd hdis0
 have hdis := hid hdis0
 clear hdis0
 simp at hd
 have q4 := hd.1
 have q9 := hd.2.2.2.2.2.2.2.2.2.2
 have H4 := hid q4.1.1; have H9 := hid q9.1.1
 clear hd hdis q4 q9
 obtain ⟨hc_wa,hf_wa⟩ := bcell hC
 have hz0_wa : w.heap.size < wa.heap.size := by have := hC.size; (try simp at this); omega
 go_wp2_with fail
 refine (impl_RatMul _ _ (mkR 1 2) (darea a1 b1 c1) _ _ wa H4.out H9.out).mono ?_
 rintro _ wb ⟨vb,sb,rfl,hab,hob,hb⟩
 obtain ⟨D1,nD1,cD1,D1_,D2,nD2,cD2,D2_,rfl,hzb, _, _⟩ := TRat.agg hab
 have HAb := hid hab; have HOb := hid hob
 clear hab hob hzb
 obtain ⟨hc_wb,hf_wb⟩ := bcell hb
 have hz0_wb : w.heap.size < wb.heap.size := by have := hb.size; (try simp at this); omega
 go_wp2
 refine bodyPost_ret (v := .agg #[.bool (rmul (mkR 1 2) (darea a1 b1 c1)).num.neg, .slice D1 nD1 cD1, .slice D2 nD2 cD2]) (by simp [results,Tryz.results59,go_sem, *]) rfl ?_
 refine agg_fin (lo := w.heap.size + 1) HAb.out HOb.out.free (fun b hb => by have := (HOb.out.2 b hb).1; (try simp at this); omega) (by omega) ?_ ?_
 ·exact Above.go
 ·exact Below.go

end Go.Proofs.YtpfipnankjeokaaGreat.X
namespace Go.Proofs.YtpfipnankjeokaaGreat.X
open Go.RowKit Go.XB Go.XN
attribute [local go_sem] fillBy opAt deps depOf Region.wanted yielded
attribute [local simp] deps depOf MP.eq MP.agg MP.sl Facts

set_option maxHeartbeats 2000000 in
set_option maxRecDepth 10000 in
theorem impl_copyPoint (v : Value) (p : TPoint) (b : List Nat) (w : World) (hx : Agg w v p b) (ok : ptOkB p = true) :
  Calls Tryz.prog 38 #[v] w (GivesAgg w p) := by
 have ok2 : ratOkB p.x = true ∧ ratOkB p.y = true := by simpa [ptOkB] using ok
 have VX := hid (ratOkB_iff.1 ok2.1); have VY := hid (ratOkB_iff.1 ok2.2)
 obtain ⟨A1,nA1,cA1,s1,A2,nA2,cA2,s2,A4,nA4,cA4,s4,A5,nA5,cA5,s5,rfl,rfl,hs1,hs2,hs4,hs5⟩ := TPoint.agg hx
 have P1 := hid (TRat.mkAgg (x := p.x) hs1 hs2); have P2 := hid (TRat.mkAgg (x := p.y) hs4 hs5)
 clear hs1 hs2 hs4 hs5 hx ok ok2
 go_enter Tryz.func38,Tryz.ntmps38
 go_wp2_with fail
 refine wp_region_line 6 (by kernel_rfl) (by kernel_rfl) (by kernel_rfl) (by kernel_rfl) (by kernel_rfl) ?_
 simp only [List.take_succ_cons,List.take_zero,List.drop_succ_cons,List.drop_zero]
 iterate 2
  apply walkM_eq
  case h =>
   intro yq zq wq hC hd
   obtain ⟨hcq,hfq⟩ := bcell hC
   simp at hd
   refine ⟨by go_simp; done, ?_⟩
   go_simp
   first | (go_ints; exact rfl) | (go_ints; rw [if_pos (by omega)]; try exact rfl) | exact rfl | (rw [if_pos (by omega)]; try exact rfl)
 refine walkM_call (MP.agg p.x) ?_ ?_
 ·intro yq zq wq hC hd
  obtain ⟨hcq,hfq⟩ := bcell hC
  simp at hd
  refine ⟨by go_simp; done, ?_⟩
  apply Exists.intro
  apply Exists.intro
  constructor
  ·go_simp
   exact ⟨rfl,rfl⟩
  ·exact gives_agg (impl_copyRat _ p.x _ wq (P1.out.below Below.go) (by have := VX.out.num24; omega) (by have := VX.out.den24; omega))
 iterate 2
  apply walkM_eq
  case h =>
   intro yq zq wq hC hd
   obtain ⟨hcq,hfq⟩ := bcell hC
   simp at hd
   refine ⟨by go_simp; done, ?_⟩
   go_simp
   first | (go_ints; exact rfl) | (go_ints; rw [if_pos (by omega)]; try exact rfl) | exact rfl | (rw [if_pos (by omega)]; try exact rfl)
 refine walkM_call (MP.agg p.y) ?_ ?_
 ·intro yq zq wq hC hd
  obtain ⟨hcq,hfq⟩ := bcell hC
  simp at hd
  refine ⟨by go_simp; done, ?_⟩
  apply Exists.intro
  apply Exists.intro
  constructor
  ·go_simp
   exact ⟨rfl,rfl⟩
  ·exact gives_agg (impl_copyRat _ p.y _ wq (P2.out.below Below.go) (by have := VY.out.num24; omega) (by have := VY.out.den24; omega))
 intro yq zq wa hC hd hdis0
 have hdis := hid hdis0
 clear hdis0
 simp at hd
 have q4 := hd.2.2.1
 have q9 := hd.2.2.2.2.2
 obtain ⟨⟨ha4,hf4⟩,hr4⟩ := q4
 obtain ⟨⟨ha9,hf9⟩,hr9⟩ := q9
 obtain ⟨D1,nD1,cD1,d1,D2,nD2,cD2,d2,e4,z4, _, _⟩ := TRat.agg ha4
 obtain ⟨D4,nD4,cD4,d4,D5,nD5,cD5,d5,e9,z9, _, _⟩ := TRat.agg ha9
 rw [e4] at ha4
 rw [e9] at ha9
 have HAb := hid (pt_join (x := p) ha4 ha9)
 have HF := hid (Free.join hf4 hf9 (hdis.out 2 5 (by decide) (by decide) (by decide)))
 have HR := hid (show ∀ b ∈ zq 2 ++ zq 5,w.heap.size + 2 ≤ b from fun b hb => by
  rcases List.mem_append.1 hb with h | h
  ·have := (hr4 b h).1; (try simp at this); omega
  ·have := (hr9 b h).1; (try simp at this); omega)
 clear hd hdis ha4 hf4 hr4 ha9 hf9 hr9 z4 z9
 generalize zq 2 ++ zq 5 = zs at *
 obtain ⟨hc_wa,hf_wa⟩ := bcell hC
 have hz0_wa : w.heap.size < wa.heap.size := by have := hC.size; (try simp at this); omega
 have hz1_wa : w.heap.size + 1 < wa.heap.size := by have := hC.size; (try simp at this); omega
 go_wp2
 refine bodyPost_ret (v := .agg #[.bool p.x.num.neg, .slice D1 nD1 cD1, .slice D2 nD2 cD2, .bool p.y.num.neg, .slice D4 nD4 cD4, .slice D5 nD5 cD5]) (by simp [results,Tryz.results38,go_sem, *]) rfl ?_
 refine agg_fin (lo := w.heap.size + 2) HAb.out HF.out HR.out (by omega) ?_ ?_
 ·exact Above.go
 ·exact Below.go

set_option maxHeartbeats 2000000 in
set_option maxRecDepth 10000 in
theorem impl_RatDiv (v1 v2 : Value) (r s : TRat) (b1 b2 : List Nat) (w : World) (hx : Agg w v1 r b1) (hy : Agg w v2 s b2) (hr : ratOkB r = true) (hs : ratOkB s = true) (h0 : s.num.mag ≠ []) :
  Calls Tryz.prog 89 #[v1,v2] w (GivesAgg w (rdiv r s)) := by
 have HX := hid hx; have HY := hid hy
 have E := hid (show rmul r ⟨⟨s.num.neg,s.den⟩,s.num.mag⟩ = rdiv r s by
  unfold rdiv; rw [hr,hs]
  cases h : s.num.mag with
  | nil => exact absurd h h0
  | cons _ _ => rfl)
 have AR := hid (show [r,s].all ratOkB = true by simp [hr,hs])
 obtain ⟨A1,nA1,cA1,s1,A2,nA2,cA2,s2,rfl,rfl,hs1,hs2⟩ := TRat.agg hx
 obtain ⟨B1,nB1,cB1,t1,B2,nB2,cB2,t2,rfl,rfl,ht1,ht2⟩ := TRat.agg hy
 have hnb : (((nB1 : Nat) : Int) == 0) = false := by
  have := ht1.1
  cases h : s.num.mag with
  | nil => exact absurd h h0
  | cons _ _ => rw [h] at this; simp at this; simp; omega
 have QI := hid (TRat.mkAgg (x := (⟨⟨s.num.neg,s.den⟩,s.num.mag⟩ : TRat)) ht2 ht1)
 clear hs1 hs2 ht1 ht2 hx hy hr hs h0
 go_enter Tryz.func89,Tryz.ntmps89
 go_wp2_with fail
 have C := impl_areRats (some ⟨w.heap.size + 3,0,none⟩) 2 2 [r,s] _ ((((w.alloc (.cells #[.bool r.num.neg, .slice A1 nA1 cA1, .slice A2 nA2 cA2] 32)).alloc (.cells #[.bool s.num.neg, .slice B1 nB1 cB1, .slice B2 nB2 cB2] 32)).alloc (.cells #[.bool false, .slice none 0 0, .slice none 0 0] 32)).alloc (.cells #[.bool r.num.neg, .slice A1 nA1 cA1, .slice A2 nA2 cA2, .bool s.num.neg, .slice B1 nB1 cB1, .slice B2 nB2 cB2] 32)) (sl_two (Agg.below HX.out Below.go) (Agg.below HY.out Below.go) (by simp) (by go_simp) (by go_simp) (by go_simp) (by go_simp) (by go_simp) (by go_simp))
 rw [AR.out] at C
 refine C.mono ?_
 clear C
 rintro _ w1 ⟨rfl,hb1⟩
 obtain ⟨hc_w1,hf_w1⟩ := bcell hb1
 have hz0_w1 : w.heap.size < w1.heap.size := by have := hb1.size; (try simp at this); omega
 have hz1_w1 : w.heap.size + 1 < w1.heap.size := by have := hb1.size; (try simp at this); omega
 have hz2_w1 : w.heap.size + 1 + 1 < w1.heap.size := by have := hb1.size; (try simp at this); omega
 go_wp2_with fail
 refine (impl_RatMul _ _ r ⟨⟨s.num.neg,s.den⟩,s.num.mag⟩ _ _ w1 (Agg.below HX.out Below.go) (Agg.below QI.out Below.go)).mono ?_
 rintro _ wb ⟨vb,sb,rfl,hab,hob,hb⟩
 obtain ⟨D1,nD1,cD1,D1_,D2,nD2,cD2,D2_,rfl,hzb, _, _⟩ := TRat.agg hab
 have HAb := hid hab; have HOb := hid hob
 clear hab hob hzb
 obtain ⟨hc_wb,hf_wb⟩ := bcell hb
 have hz0_wb : w.heap.size < wb.heap.size := by have := hb.size; (try simp at this); omega
 have hz1_wb : w.heap.size + 1 < wb.heap.size := by have := hb.size; (try simp at this); omega
 have hz2_wb : w.heap.size + 1 + 1 < wb.heap.size := by have := hb.size; (try simp at this); omega
 go_wp2
 refine bodyPost_ret (v := .agg #[.bool (rmul r ⟨⟨s.num.neg,s.den⟩,s.num.mag⟩).num.neg, .slice D1 nD1 cD1, .slice D2 nD2 cD2]) (by simp [results,Tryz.results89,go_sem, *]) rfl ?_
 rw [← E.out]
 refine agg_fin (lo := w.heap.size + 3) HAb.out HOb.out.free (fun b hb => by have := (HOb.out.2 b hb).1; (try simp at this); omega) (by omega) ?_ ?_
 ·exact Above.go
 ·exact Below.go
end Go.Proofs.YtpfipnankjeokaaGreat.X

namespace Go.XB
open Go.RowKit
theorem Sl.first {α : Type} [Dat α] {w : World} {A : Option Addr} {n c : Nat} {xs : List α} {bs : List Nat} (h : Sl w A n c xs bs) {k : Nat} (hk : k ≤ n) : ∃ bs',Sl w A k c (xs.take k) bs' := by
 obtain ⟨h1,h2,h3,h4,h5⟩ := h
 rcases Nat.eq_zero_or_pos k with h0 | h0
 ·subst h0
  exact ⟨[],by simp,Nat.zero_le _,h3,fun _ => rfl,fun h => absurd h (by omega)⟩
 ·obtain ⟨b,off,bss,hA,hbs,hl,hb,he⟩ := h5 (by omega)
  refine ⟨b :: (bss.take k).flatten,by simp; omega,by omega,h3,fun h => absurd h (by omega),fun _ => ⟨b,off,bss.take k,hA,rfl,by simp [hl],hb,fun j x fs hx hf => ?_⟩⟩
  rw [List.getElem?_take] at hx hf
  split at hx
  ·rename_i hj
   rw [if_pos hj] at hf
   exact he j x fs hx hf
  ·cases hx
theorem all_at {α : Type} {p : α → Bool} {xs : List α} {k : Nat} {x : α} (h : xs.all p = true) (hx : xs[k]? = some x) : p x = true := List.all_eq_true.1 h x (List.mem_of_getElem? hx)
theorem nodup_any {α : Type} [DecidableEq α] {xs : List α} {k : Nat} {x : α} (h : xs.Nodup) (hx : xs[k]? = some x) : (xs.take k).any (fun y => decide (x = y)) = false := by
 rw [List.any_eq_false]
 intro y hy
 obtain ⟨j,hj⟩ := List.mem_iff_getElem?.1 hy
 rw [List.getElem?_take] at hj
 split at hj
 ·rename_i hjk
  have h1 := List.getElem?_eq_some_iff.1 hx
  have h2 := List.getElem?_eq_some_iff.1 hj
  obtain ⟨l1,e1⟩ := h1
  obtain ⟨l2,e2⟩ := h2
  have := List.pairwise_iff_getElem.1 h j k l2 l1 hjk
  rw [e1,e2] at this
  simp
  exact fun e => this e.symm
 ·cases hj
end Go.XB
namespace Go.Proofs.YtpfipnankjeokaaGreat.X
open Go.RowKit Go.XB Go.XN
attribute [local go_sem] fillBy opAt deps depOf Region.wanted yielded
attribute [local simp] deps depOf MP.eq MP.agg MP.sl Facts

set_option maxRecDepth 10000 in
set_option maxHeartbeats 1000000 in
theorem index_ptsC (f : Nat) (hf : Known f) (cv : Value) (A : Option Addr) (n c : Nat) (xs : List TPoint) (bs : List Nat) (w : World) (p : TPoint → Bool) (hx : Sl w A n c xs bs)
  (hp : ∀ (v : Value) (x : TPoint) (b : List Nat) (w' : World),Below w.heap.size w w' → x ∈ xs → Agg w' v x b → Calls Tryz.prog f #[v,cv] w' (Gives w' (.bool (p x)))) :
  Calls Tryz.prog 134 #[.slice A n c, .func (.func f) #[] #[cv]] w (GivesIdx w (xs.any p)) := by
 have HL := hid hx.1
 have HX := hid hx
 have HP := hid hp
 unfold Known at hf
 have hm : n ≤ maxLen := Nat.le_trans hx.2.1 hx.2.2.1
 unfold maxLen at hm
 clear hx hp
 go_enter Tryz.func134,Tryz.ntmps134
 go_wp2_with fail
 go_loopg [8] n (fun g s8 wr => ∃ k : Nat,k + g = n ∧ s8 = .int .i64 k ∧ Hid ((xs.take k).any p = false) ∧ Below w.heap.size w wr)
 case atStart => exact ⟨0,by omega,rfl,by show (xs.take 0).any p = false; simp,Below.refl _ _⟩
 case round =>
  obtain ⟨k,hk,rfl,ha,hb⟩ := hrel
  have HB := hid hb
  rcases Nat.lt_or_ge k n with hkn | hkn
  ·obtain ⟨be,offe,x,A1,m1,d1,s1,A2,m2,d2,s2,A4,m4,d4,s4,A5,m5,d5,s5,rfl,hble,hx1,e0,e1,e2,e3,e4,e5,hag⟩ := TPoint.elemA (Sl.below HX.out hb) hkn
   have HX1 := hid hx1
   have HAG := hid hag
   have hki : (k : Int) < n := by omega
   obtain ⟨g,rfl⟩ : ∃ g,gk = g + 1 := ⟨gk - 1,by omega⟩
   have hk' := hid (show k + 1 + g = n by omega)
   have hkj : k + 1 ≤ n := hkn
   clear hx1 hk hkn hag
   go_wp2_with fail
   refine (HP.out _ x _ wr HB.out (List.mem_of_getElem? HX1.out) HAG.out).mono ?_
   rintro _ w1 ⟨rfl,hb1⟩
   have hb2 := Below.next hb hb1
   cases hpx : p x
   ·have r1 := hid (any_step HX1.out ha.out hpx)
    clear hpx
    go_wp2_with fail
    go_roundg g
    case measure => omega
    case rel => exact ⟨k + 1,hk'.out,by go_num,r1,hb2⟩
   ·have r1 := hid (any_at HX1.out hpx)
    clear hpx
    go_wp2
    go_ret
    exact ⟨k,rfl,by rw [r1.out]; simp,hb2⟩
  ·have e := hid (show xs.any p = false by
    have := ha.out
    rwa [List.take_of_length_le (by rw [HL.out]; omega)] at this)
   have hki : ¬ ((k : Int) < n) := by omega
   clear hk hkn
   go_wp2
   go_ret
   exact ⟨-1,rfl,by rw [e.out]; rfl,hb⟩

set_option maxHeartbeats 400000 in
theorem contains_ptsC (f : Nat) (hf : Known f) (cv : Value) (A : Option Addr) (n c : Nat) (xs : List TPoint) (bs : List Nat) (w : World) (p : TPoint → Bool) (hx : Sl w A n c xs bs)
  (hp : ∀ (v : Value) (x : TPoint) (b : List Nat) (w' : World),Below w.heap.size w w' → x ∈ xs → Agg w' v x b → Calls Tryz.prog f #[v,cv] w' (Gives w' (.bool (p x)))) :
  Calls Tryz.prog 93 #[.slice A n c, .func (.func f) #[] #[cv]] w (Gives w (.bool (xs.any p))) := by
 have HX := hid hx
 have HP := hid hp
 have HF := hid hf
 clear hx hp hf
 go_enter Tryz.func93,Tryz.ntmps93
 go_wp2_with fail
 refine (index_ptsC f HF.out cv A n c xs bs _ p HX.out HP.out).mono ?_
 rintro _ w1 ⟨r,rfl,e,hb1⟩
 have E := hid e
 clear e
 go_wp2
 go_ret
 exact ⟨ret_bool E.out,hb1⟩

theorem known_arePoints_1 : Known 125 := fun a w => by kernel_rfl
set_option maxHeartbeats 1000000 in
theorem impl_arePoints_1 (v : Value) (x : TPoint) (b : List Nat) (g : Nat) (u0 u1 u2 u3 u4 u5 : Value) (y : TPoint) (by_ : List Nat) (w : World) (hx : Agg w v x b) (hg : w.heap[g]? = some (.cells #[u0,u1,u2,u3,u4,u5] 34)) (hy : Agg w (.agg #[u0,u1,u2,u3,u4,u5]) y by_) :
  Calls Tryz.prog 125 #[v, .pointer (some ⟨g,0,none⟩)] w (Gives w (.bool (decide (y = x)))) := by
 have HX := hid hx; have HY := hid hy
 obtain ⟨A1,nA1,cA1,s1,A2,nA2,cA2,s2,A4,nA4,cA4,s4,A5,nA5,cA5,s5,rfl,rfl,hs1,hs2,hs4,hs5⟩ := TPoint.agg hx
 have c0 := (box_cell hg (j := 0) (v := u0) rfl).1
 have c1 := (box_cell hg (j := 1) (v := u1) rfl).1
 have c2 := (box_cell hg (j := 2) (v := u2) rfl).1
 have c3 := (box_cell hg (j := 3) (v := u3) rfl).1
 have c4 := (box_cell hg (j := 4) (v := u4) rfl).1
 have c5 := (box_cell hg (j := 5) (v := u5) rfl).1
 have hgl : g < w.heap.size := lt_of_get hg
 clear hs1 hs2 hs4 hs5 hx hy hg
 go_enter Tryz.func125,Tryz.ntmps125
 go_wp2_with fail
 refine (impl_SamePoint _ _ y x _ _ _ (HY.out.below Below.go) (HX.out.below Below.go)).mono ?_
 rintro _ w1 ⟨rfl,hb1⟩
 go_wp2
 go_ret
 exact ⟨rfl,Below.go⟩

set_option maxHeartbeats 4000000 in
set_option maxRecDepth 10000 in
theorem impl_arePoints (A : Option Addr) (n c : Nat) (xs : List TPoint) (bs : List Nat) (w : World) (hx : Sl w A n c xs bs) (hall : xs.all ptOkB = true) (hnd : xs.Nodup) (h3 : 3 ≤ n) (h40 : n ≤ 40) :
  Calls Tryz.prog 75 #[.slice A n c] w (Gives w (.bool true)) := by
 have HX := hid hx; have HALL := hid hall; have HND := hid hnd
 have hnc : n ≤ c := hx.2.1
 have KN := known_arePoints_1
 unfold Known at KN
 have HW := hid (show inB 3 n 40 = true by unfold inB; simp; omega)
 clear hx hall hnd
 go_enter Tryz.func75,Tryz.ntmps75
 go_wp2_with fail
 go_loopg [7] n (fun g s wr => ∃ k : Nat,k + g = n ∧ s = .int .i64 k ∧ Below w.heap.size w wr)
 case atStart => exact ⟨0,by omega,rfl,Below.refl _ _⟩
 case round =>
  obtain ⟨k,hk,rfl,hb⟩ := hrel
  rcases Nat.lt_or_ge k n with hkn | hkn
  ·obtain ⟨be,of,x,D1,nD1,cD1,d1,D2,nD2,cD2,d2,D4,nD4,cD4,d4,D5,nD5,cD5,d5,hA,hbl,hx1,d0,d1_,d2_,d3_,d4_,d5_,hag⟩ := TPoint.elemA (HX.out.below hb) hkn
   subst hA
   obtain ⟨ps,hps⟩ := (HX.out.below hb).first (Nat.le_of_lt hkn)
   have HPS := hid hps
   have NA := hid (nodup_any HND.out hx1)
   have OK := hid (all_at HALL.out hx1)
   have HAG := hid hag
   have hki : (k : Int) < n := by omega
   have hki0 : (0 : Int) ≤ k := by omega
   have hkc : (k : Int) ≤ c := by omega
   obtain ⟨g,rfl⟩ : ∃ g,gk = g + 1 := ⟨gk - 1,by omega⟩
   have hk' := hid (show k + 1 + g = n by omega)
   have hk41 : (k : Int) ≤ 40 := by omega
   have HB := hid hb
   clear hx1 hk hkn hag hps
   go_wp2_with fail
   have C := impl_IsValidPoint _ x _ (wr.alloc (.cells #[.bool x.x.num.neg, .slice D1 nD1 cD1, .slice D2 nD2 cD2, .bool x.y.num.neg, .slice D4 nD4 cD4, .slice D5 nD5 cD5] 34)) (HAG.out.below (Below.box _))
   rw [OK.out] at C
   refine C.mono ?_
   clear C
   rintro _ w1 ⟨rfl,hb1⟩
   have HB1 := hid hb1
   have HW1 := hid (show Below wr.heap.size wr w1 from Below.trans (Below.box _) (hb1.mono (by simp)))
   have HG := hid (show w1.heap[wr.heap.size]? = some (.cells #[.bool x.x.num.neg, .slice D1 nD1 cD1, .slice D2 nD2 cD2, .bool x.y.num.neg, .slice D4 nD4 cD4, .slice D5 nD5 cD5] 34) from (hb1.block _ (by simp)).trans (heap_alloc_new wr _))
   clear hb1
   go_wp2_with fail
   have C := contains_ptsC 125 known_arePoints_1 (.pointer (some ⟨wr.heap.size,0,none⟩)) (some ⟨be,of,none⟩) k c _ ps w1 (fun y => decide (x = y)) (HPS.out.below HW1.out) (fun v y b w' hb' _ ha => impl_arePoints_1 v y b wr.heap.size _ _ _ _ _ _ x _ w' ha ((hb'.block _ (lt_of_get HG.out)).trans HG.out) ((HAG.out.below HW1.out).below hb'))
   rw [NA.out] at C
   refine C.mono ?_
   clear C
   rintro _ w2 ⟨rfl,hb2⟩
   go_wp2_with fail
   go_roundg g
   case measure => omega
   case rel => exact ⟨k + 1,hk'.out,by go_num,Below.next (Below.next HB.out HW1.out) hb2⟩
  ·obtain rfl : k = n := by omega
   have HB := hid hb
   clear hk hkn
   go_wp2_with fail
   have C := impl_within k 3 40 wr
   rw [HW.out] at C
   refine C.mono ?_
   clear C
   rintro _ w1 ⟨rfl,hb1⟩
   go_wp2
   go_ret
   exact ⟨rfl,Below.next HB.out hb1⟩
end Go.Proofs.YtpfipnankjeokaaGreat.X
namespace Go.Proofs.YtpfipnankjeokaaGreat.X
open Go.RowKit Go.XB Go.XN
def PtsI (ps : List TPoint) (xs ys : List Int) : Prop := ps.length = xs.length ∧ ps.length = ys.length ∧ ∀ (k : Nat) (p : TPoint),ps[k]? = some p → p = ptI (at0 xs k) (at0 ys k)
theorem rint_small {x : Int} (h : -100 ≤ x ∧ x ≤ 100) : smallB (rint x) = true ∧ Lims (rint x).num.mag ∧ NegOk (rint x).num ∧ numv (rint x) = x ∧ denv (rint x) = 1 := by
 have hl : (dig x.natAbs).length ≤ 1 := len_le_iff.2 (by show ((x.natAbs : Nat) : Int) < pw 1; have : pw 1 = 1000000000 := by decide
                                                         omega)
 refine ⟨?_,(dig_can _).1, ?_, ?_,by show val [1] = 1; decide⟩
 ·unfold smallB rint encI; simp [hl]
 ·intro h3 e
  have h4 : x < 0 := by simpa [rint,encI] using h3
  have h5 := val_dig x.natAbs
  have e' : dig x.natAbs = [] := e
  rw [e'] at h5
  simp [val] at h5
  omega
 ·show ival (encI x) = x
  rw [ival_enc]
theorem at0_small {xs : List Int} (h : Small xs) (k : Int) : -100 ≤ at0 xs k ∧ at0 xs k ≤ 100 := by
 unfold at0
 by_cases hk : k.toNat < xs.length
 ·rw [List.getD_eq_getElem?_getD,List.getElem?_eq_getElem hk]
  exact h _ (List.getElem_mem hk)
 ·rw [List.getD_eq_getElem?_getD,List.getElem?_eq_none (by omega)]
  decide
theorem take_at0 {xs : List Int} {k : Nat} (hk : k < xs.length) : xs.take (k + 1) = xs.take k ++ [at0 xs k] := by
 rw [List.take_add_one]
 unfold at0
 simp [List.getD,List.getElem?_eq_getElem hk]
end Go.Proofs.YtpfipnankjeokaaGreat.X
namespace Go.Proofs.YtpfipnankjeokaaGreat.X
open Go.RowKit Go.XB Go.XN
attribute [local go_sem] fillBy opAt deps depOf Region.wanted yielded
attribute [local simp] deps depOf MP.eq MP.agg MP.sl Facts

theorem heap_keep {w w' : World} {b : Nat} {o : Obj} (h : w.heap[b]? = some o) (hb : Below w.heap.size w w') : w'.heap[b]? = some o := (hb.block b (lt_of_get h)).trans h
theorem grown_set1 (w : World) (g o : Nat) (v : Value) : w.grownBy (w.setCell ⟨g,o,none⟩ v) (some g) :=
 ⟨rfl,rfl,rfl,by simp,fun k _ hne => Below.heap_setCell w ⟨g,o,none⟩ v k (fun e => hne (by rw [e]))⟩
theorem row_set_off {w : World} {base g n cap : Nat} {e : TypeId} {xs : List Value} {b o : Nat} {v : Value} (h : w.ownsRow base e 1 (.slice (some ⟨g,0,none⟩) n cap) n xs) (hb : b < base) : (w.setCell ⟨b,o,none⟩ v).ownsRow base e 1 (.slice (some ⟨g,0,none⟩) n cap) n xs :=
 h.kept (grown_set1 w b o v) (.inr (by have h1 : base ≤ g := (World.ownsRow.lt h _ rfl).1; simp [Value.ownBlock]; omega))
theorem ne_own {a b n c : Nat} (h : a ≠ b) : (Value.slice (some ⟨b,0,none⟩) n c).ownBlock ≠ some a := by simp [Value.ownBlock]; exact fun e => h e.symm
theorem int_one (x : Int) : ∀ u ∈ ([.int .i64 x] : List Value),u.oneCell' = true := by intro u hu; simp at hu; subst hu; rfl
def GivesPlc (w : World) (n : Nat) (xs ys : List Int) (e : Ending) (w' : World) : Prop := ∃ v,e = .returned v ∧ Plc w' v n xs ys ∧ Below w.heap.size w w'

set_option maxHeartbeats 16000000 in
set_option maxRecDepth 10000 in
theorem impl_place (A : Option Addr) (n c : Nat) (ps : List TPoint) (bs : List Nat) (xs ys : List Int) (w : World) (hx : Sl w A n c ps bs) (hps : PtsI ps xs ys) (hsx : Small xs) (hsy : Small ys) (hn : n ≤ 40) (hn0 : 0 < n) :
  Calls Tryz.prog 76 #[.slice A n c] w (GivesPlc w n xs ys) := by
 have HX := hid hx; have HP := hid hps; have HSX := hid hsx; have HSY := hid hsy
 have HLX := hid (show xs.length = n from hps.1.symm.trans hx.1)
 have HLY := hid (show ys.length = n from hps.2.1.symm.trans hx.1)
 obtain ⟨i0,hi,hz0,hz1,hz2⟩ := info_parts infoInt
 clear hx hps hsx hsy
 go_enter Tryz.func76,Tryz.ntmps76
 go_wp2_with fail
 go_loopg [4,23] n (fun g s4 s wr => ∃ k : Nat,k + g = n ∧ s4 = .int .i64 1 ∧ s = .int .i64 k ∧ Below w.heap.size w wr ∧ Hid (wr.heap[w.heap.size]? = some (.cells #[.slice none 0 0, .slice none 0 0, .slice none 0 0] 111)) ∧ Hid (wr.heap[w.heap.size + 1]? = some (.cells #[.slice A n c, .slice none 0 0, .slice none 0 0] 111)))
 case atStart =>
  refine ⟨0,by omega,rfl,rfl,Below.go, ?_, ?_⟩
  ·exact (Below.heap_alloc _ _ _ (by simp)).trans (heap_alloc_new w _)
  ·have := heap_alloc_new (w.alloc (.cells #[.slice none 0 0, .slice none 0 0, .slice none 0 0] 111)) (.cells #[.slice A n c, .slice none 0 0, .slice none 0 0] 111)
   rw [World.size_alloc] at this
   exact this
 case round =>
  obtain ⟨k,hk,rfl,rfl,hb,hh0,hh1⟩ := hrel
  have HB := hid hb
  rcases Nat.lt_or_ge k n with hkn | hkn
  ·rename World => wr0
   have hki : (k : Int) < n := by omega
   have hk40 : (k : Int) ≤ 40 := by omega
   obtain ⟨g,rfl⟩ : ∃ g,gk = g + 1 := ⟨gk - 1,by omega⟩
   have hk' := hid (show k + 1 + g = n by omega)
   obtain ⟨be,of,x,D1,nD1,cD1,d1,D2,nD2,cD2,d2,D4,nD4,cD4,d4,D5,nD5,cD5,d5,hA,hbl,hx1,d0,d1_,d2_,d3_,d4_,d5_,hag⟩ := TPoint.elemA (HX.out.below hb) hkn
   subst hA
   obtain ⟨p1,p2, _,hpx,hpy⟩ := pt_x hag
   have PX := hid hpx; have PY := hid hpy
   have hxe : x = ptI (at0 xs k) (at0 ys k) := HP.out.2.2 k x hx1
   obtain ⟨a,ha⟩ : ∃ a,at0 xs (k : Int) = a := ⟨_,rfl⟩
   obtain ⟨b,hbq⟩ : ∃ b,at0 ys (k : Int) = b := ⟨_,rfl⟩
   have SX := hid (show smallB x.x = true ∧ Lims x.x.num.mag ∧ NegOk x.x.num ∧ numv x.x = a ∧ denv x.x = 1 by rw [hxe,ha,hbq]; exact rint_small (by rw [← ha]; exact at0_small HSX.out _))
   have SY := hid (show smallB x.y = true ∧ Lims x.y.num.mag ∧ NegOk x.y.num ∧ numv x.y = b ∧ denv x.y = 1 by rw [hxe,ha,hbq]; exact rint_small (by rw [← hbq]; exact at0_small HSY.out _))
   clear hk hkn hx1 hag hpx hpy hxe ha hbq hb
   go_wp2_with fail
   go_loopg [4,33] 2 (fun g s4 s wr2 => ∃ i : Nat,i + g = 2 ∧ s4 = .int .i64 1 ∧ s = .int .i64 i ∧ Below ((wr0.alloc (.cells #[.bool x.x.num.neg, .slice D1 nD1 cD1, .slice D2 nD2 cD2, .bool x.y.num.neg, .slice D4 nD4 cD4, .slice D5 nD5 cD5] 34)).alloc (.cells #[.bool x.x.num.neg, .slice D1 nD1 cD1, .slice D2 nD2 cD2, .bool x.y.num.neg, .slice D4 nD4 cD4, .slice D5 nD5 cD5] 32)).heap.size ((wr0.alloc (.cells #[.bool x.x.num.neg, .slice D1 nD1 cD1, .slice D2 nD2 cD2, .bool x.y.num.neg, .slice D4 nD4 cD4, .slice D5 nD5 cD5] 34)).alloc (.cells #[.bool x.x.num.neg, .slice D1 nD1 cD1, .slice D2 nD2 cD2, .bool x.y.num.neg, .slice D4 nD4 cD4, .slice D5 nD5 cD5] 32)) wr2)
   case atStart => exact ⟨0,rfl,rfl,rfl,Below.refl _ _⟩
   case round =>
    obtain ⟨i,hi2,rfl,rfl,hbi⟩ := hrel
    have HBi := hid (show Below wr0.heap.size wr0 wr from Below.trans ((Below.box _).alloc (by simp) _) (hbi.mono (by simp; omega)))
    obtain ⟨hc_i,hf_i⟩ := bcell hbi
    have hsz0 : wr0.heap.size + 1 < wr.heap.size := by have := hbi.size; simp at this; omega
    obtain rfl | rfl | rfl : i = 0 ∨ i = 1 ∨ i = 2 := by omega
    ·obtain rfl : gk = 1 + 1 := by omega
     clear hi2
     go_wp2_with fail
     have C := impl_isSmall _ x.x _ (wr.alloc (.cells #[.bool x.x.num.neg, .slice D1 nD1 cD1, .slice D2 nD2 cD2] 32)) ((PX.out.below HBi.out).below (Below.box _))
     rw [SX.out.1] at C
     refine C.mono ?_
     clear C
     rintro _ w1 ⟨rfl,hb1⟩
     obtain ⟨hc_w1,hf_w1⟩ := bcell hb1
     have HB1 := hid (show Below wr.heap.size wr w1 from Below.trans (Below.box _) (hb1.mono (by simp)))
     go_wp2_with fail
     have C := impl_small _ x.x _ w1 ((PX.out.below HBi.out).below HB1.out) SX.out.1 SX.out.2.1 SX.out.2.2.1
     rw [SX.out.2.2.2.1,SX.out.2.2.2.2] at C
     refine C.mono ?_
     clear C
     rintro _ w2 ⟨rfl,hb2⟩
     have HB2 := hid (Below.next HB1.out hb2)
     go_wp2_with fail
     have C := impl_gcd 1 1 w2 (by decide) (by decide) (by decide) (by decide)
     rw [show ((Int.gcd 1 1 : Nat) : Int) = 1 from rfl] at C
     refine C.mono ?_
     clear C
     rintro _ w3 ⟨rfl,hb3⟩
     have HB3 := hid (Below.next HB2.out hb3)
     go_wp2_with fail
     go_roundg 1
     case measure => omega
     case rel => exact ⟨0 + 1,rfl,rfl,by go_num,hbi.trans (HB3.out.mono hbi.size)⟩
    ·obtain rfl : gk = 0 + 1 := by omega
     clear hi2
     go_wp2_with fail
     have C := impl_isSmall _ x.y _ (wr.alloc (.cells #[.bool x.y.num.neg, .slice D4 nD4 cD4, .slice D5 nD5 cD5] 32)) ((PY.out.below HBi.out).below (Below.box _))
     rw [SY.out.1] at C
     refine C.mono ?_
     clear C
     rintro _ w1 ⟨rfl,hb1⟩
     obtain ⟨hc_w1,hf_w1⟩ := bcell hb1
     have HB1 := hid (show Below wr.heap.size wr w1 from Below.trans (Below.box _) (hb1.mono (by simp)))
     go_wp2_with fail
     have C := impl_small _ x.y _ w1 ((PY.out.below HBi.out).below HB1.out) SY.out.1 SY.out.2.1 SY.out.2.2.1
     rw [SY.out.2.2.2.1,SY.out.2.2.2.2] at C
     refine C.mono ?_
     clear C
     rintro _ w2 ⟨rfl,hb2⟩
     have HB2 := hid (Below.next HB1.out hb2)
     go_wp2_with fail
     have C := impl_gcd 1 1 w2 (by decide) (by decide) (by decide) (by decide)
     rw [show ((Int.gcd 1 1 : Nat) : Int) = 1 from rfl] at C
     refine C.mono ?_
     clear C
     rintro _ w3 ⟨rfl,hb3⟩
     have HB3 := hid (Below.next HB2.out hb3)
     go_wp2_with fail
     go_roundg 0
     case measure => omega
     case rel => exact ⟨1 + 1,rfl,rfl,by go_num,hbi.trans (HB3.out.mono hbi.size)⟩
    ·clear hi2
     go_wp2_with fail
     go_roundg g
     case measure => omega
     case rel => exact ⟨k + 1,hk'.out,rfl,by go_num,Below.next HB.out HBi.out,heap_keep hh0.out HBi.out,heap_keep hh1.out HBi.out⟩
  ·obtain rfl : k = n := by omega
   have hki : ¬ ((k : Int) < k) := by omega
   clear hk hkn hb
   go_wp2_with fail
   have R0 := hid (show ((wr.alloc (.cells #[] 3)).alloc (.cells #[] 3)).ownsRow (w.heap.size + 2) 3 1 (.slice (some ⟨wr.heap.size,0,none⟩) 0 0) 0 [] from ownsRow_below (World.ownsRow_made wr #[] 0 (by have := lt_of_get hh1.out; omega) (Nat.zero_le _) rfl) (Below.box _))
   have R1 := hid (show ((wr.alloc (.cells #[] 3)).alloc (.cells #[] 3)).ownsRow (w.heap.size + 2) 3 1 (.slice (some ⟨wr.heap.size + 1,0,none⟩) 0 0) 0 [] from by have := World.ownsRow_made (base := w.heap.size + 2) (e := 3) (size := 1) (wr.alloc (.cells #[] 3)) #[] 0 (by have := lt_of_get hh1.out; simp; omega) (Nat.zero_le _) rfl; rw [World.size_alloc] at this; exact this)
   go_loopg [11,12,62] k (fun g s11 s12 s wr => ∃ (j gX cX gY cY : Nat),j + g = k ∧ s11 = .slice (some ⟨gX,0,none⟩) j cX ∧ s12 = .slice (some ⟨gY,0,none⟩) j cY ∧ s = .int .i64 j ∧ Hid (wr.ownsRow (w.heap.size + 2) 3 1 (.slice (some ⟨gX,0,none⟩) j cX) j ((xs.take j).map (.int .i64))) ∧ Hid (wr.ownsRow (w.heap.size + 2) 3 1 (.slice (some ⟨gY,0,none⟩) j cY) j ((ys.take j).map (.int .i64))) ∧ Hid (gX ≠ gY) ∧ Below w.heap.size w wr ∧ Hid (wr.heap[w.heap.size]? = some (.cells #[.slice none 0 0, .slice none 0 0, .slice none 0 0] 111)) ∧ Hid (wr.heap[w.heap.size + 1]? = some (.cells #[.slice A k c, .slice none 0 0, .slice none 0 0] 111)))
   case atStart => exact ⟨0,wr.heap.size,0,wr.heap.size + 1,0,by omega,rfl,rfl,rfl,R0.out,R1.out,(show wr.heap.size ≠ wr.heap.size + 1 by omega),Below.next HB.out ((Below.box _).alloc (by simp) _),heap_keep hh0.out ((Below.box _).alloc (by simp) _),heap_keep hh1.out ((Below.box _).alloc (by simp) _)⟩
   case round =>
    clear hh0 hh1 R0 R1 HB
    obtain ⟨j,gX,cX,gY,cY,hj,rfl,rfl,rfl,hrx,hry,hne,hb,hh0,hh1⟩ := hrel
    have HB := hid hb
    rcases Nat.lt_or_ge j k with hjk | hjk
    ·have hji : (j : Int) < k := by omega
     have hj40 : (j : Int) ≤ 40 := by omega
     obtain ⟨g,rfl⟩ : ∃ g,gk = g + 1 := ⟨gk - 1,by omega⟩
     have hj' := hid (show j + 1 + g = k by omega)
     obtain ⟨be,of,x,D1,nD1,cD1,d1,D2,nD2,cD2,d2,D4,nD4,cD4,d4,D5,nD5,cD5,d5,hA,hbl,hx1,d0,d1_,d2_,d3_,d4_,d5_,hag⟩ := TPoint.elemA (HX.out.below hb) hjk
     subst hA
     obtain ⟨p1,p2, _,hpx,hpy⟩ := pt_x hag
     have PX := hid hpx; have PY := hid hpy
     have hxe : x = ptI (at0 xs j) (at0 ys j) := HP.out.2.2 j x hx1
     have TX := hid (take_at0 (xs := xs) (k := j) (by rw [HLX.out]; exact hjk))
     have TY := hid (take_at0 (xs := ys) (k := j) (by rw [HLY.out]; exact hjk))
     have ba := at0_small HSX.out (j : Int)
     have bb := at0_small HSY.out (j : Int)
     obtain ⟨a,ha⟩ : ∃ a,at0 xs (j : Int) = a := ⟨_,rfl⟩
     obtain ⟨b,hbq⟩ : ∃ b,at0 ys (j : Int) = b := ⟨_,rfl⟩
     rw [ha] at TX ba
     rw [hbq] at TY bb
     have SX := hid (show smallB x.x = true ∧ Lims x.x.num.mag ∧ NegOk x.x.num ∧ numv x.x = a ∧ denv x.x = 1 by rw [hxe,ha,hbq]; exact rint_small ba)
     have SY := hid (show smallB x.y = true ∧ Lims x.y.num.mag ∧ NegOk x.y.num ∧ numv x.y = b ∧ denv x.y = 1 by rw [hxe,ha,hbq]; exact rint_small bb)
     have WX := hid (show inB (-536870912) a 536870912 = true by unfold inB; simp; omega)
     have WY := hid (show inB (-536870912) b 536870912 = true by unfold inB; simp; omega)
     have C3 := hid (show j + 1 ≤ maxLen by unfold maxLen; omega)
     have C4 := hid (show (j + 1) * 8 ≤ 140737488355328 by omega)
     clear hj hjk hx1 hag hpx hpy hxe ha hbq hb
     go_wp2_with fail
     have C := impl_small _ x.x _ (wr.alloc (.cells #[.bool x.x.num.neg, .slice D1 nD1 cD1, .slice D2 nD2 cD2, .bool x.y.num.neg, .slice D4 nD4 cD4, .slice D5 nD5 cD5] 34)) (PX.out.below (Below.box _)) SX.out.1 SX.out.2.1 SX.out.2.2.1
     rw [SX.out.2.2.2.1,SX.out.2.2.2.2] at C
     refine C.mono ?_
     clear C
     rintro _ w1 ⟨rfl,hb1⟩
     obtain ⟨hc_w1,hf_w1⟩ := bcell hb1
     have HB1 := hid (show Below wr.heap.size wr w1 from Below.trans (Below.box _) (hb1.mono (by simp)))
     go_wp2_with fail
     have C := impl_small _ x.y _ w1 (PY.out.below HB1.out) SY.out.1 SY.out.2.1 SY.out.2.2.1
     rw [SY.out.2.2.2.1,SY.out.2.2.2.2] at C
     refine C.mono ?_
     clear C
     rintro _ w2 ⟨rfl,hb2⟩
     have HB2 := hid (Below.next HB1.out hb2)
     go_wp2_with fail
     refine wp_region_walk (by kernel_rfl) (by kernel_rfl) (by kernel_rfl) ?_
     iterate 12
      apply walkM_eq
      case h =>
       intro yq zq wq hC hd
       obtain ⟨hcq,hfq⟩ := bcell hC
       simp at hd
       refine ⟨by go_simp; done, ?_⟩
       go_simp
       first | (go_ints; exact rfl) | (go_ints; rw [if_pos (by omega)]; try exact rfl) | exact rfl | (rw [if_pos (by omega)]; try exact rfl)
     intro yq zq w3 hC hd hdis0
     have hdis := hid hdis0
     clear hdis0
     simp at hd
     go_simp
     clear hd hdis
     have HB3 := hid (Below.next HB2.out hC)
     go_wp2_with fail
     have C := impl_within a (-536870912) 536870912 w3
     rw [WX.out] at C
     refine C.mono ?_
     clear C
     rintro _ w4 ⟨rfl,hb4⟩
     have HB4 := hid (Below.next HB3.out hb4)
     go_wp2_with fail
     have C := impl_within b (-536870912) 536870912 w4
     rw [WY.out] at C
     refine C.mono ?_
     clear C
     rintro _ w5 ⟨rfl,hb5⟩
     have HB5 := hid (Below.next HB4.out hb5)
     clear hb1 hc_w1 hf_w1 hb2 hC hb4 hb5
     have hownX := ownsRow_below hrx.out HB5.out
     have HY5 := hid (ownsRow_below hry.out HB5.out)
     have W5 := hid (show w.heap.size + 2 ≤ w5.heap.size by have := lt_of_get hh1.out; have := HB5.out.size; omega)
     go_wp2_with (first | (at_builtin; refine wpList_push rfl _ _ 28 rfl (w.heap.size + 2) 3 i0 (.int .i64 0) 1 8 Tryz.underlying28 hi hz0 hz1 hz2 rfl (by decide) gY j cY ((ys.take j).map (.int .i64)) (by go_simp; done) (((HY5.out.alloc (.cells #[.int .i64 a] 3)).kept hgX (.inr (ne_own hne.out))).alloc _) ⟨w6.heap.size,0,none⟩ 1 1 [.int .i64 b] (by go_simp; done) rfl (cell_one_new _ _ _) (int_one _) C3.out C4.out (le_alloc (Nat.le_trans (le_alloc W5.out _) hgX.size) _) ?_; intro gY' cY' w7 hownY' hgY horY) | (at_builtin; refine wpList_push rfl _ _ 28 rfl (w.heap.size + 2) 3 i0 (.int .i64 0) 1 8 Tryz.underlying28 hi hz0 hz1 hz2 rfl (by decide) gX j cX ((xs.take j).map (.int .i64)) (by go_simp; done) (hownX.alloc _) ⟨w5.heap.size,0,none⟩ 1 1 [.int .i64 a] (by go_simp; done) rfl (cell_one_new _ _ _) (int_one _) C3.out C4.out (le_alloc W5.out _) ?_; intro gX' cX' w6 hownX' hgX horX))
     have HX6 := hid hownX'; have HG6 := hid hgX; have OR6 := hid horX
     have hownY := (HY5.out.alloc (.cells #[.int .i64 a] 3)).kept hgX (.inr (ne_own hne.out))
     have W6 := hid (show w.heap.size + 2 ≤ w6.heap.size by have := hgX.size; simp at this; have := W5.out; omega)
     clear hownX' hgX horX hownX
     have hY6 := hid hownY
     have xlt : w.heap.size + 2 ≤ gX' ∧ gX' < w6.heap.size := World.ownsRow.lt HX6.out _ rfl
     have ylt : w.heap.size + 2 ≤ gY ∧ gY < w6.heap.size := World.ownsRow.lt hY6.out _ rfl
     have ylt5 : w.heap.size + 2 ≤ gY ∧ gY < w5.heap.size := World.ownsRow.lt HY5.out _ rfl
     have xlt0 : w.heap.size + 2 ≤ gX ∧ gX < wr.heap.size := World.ownsRow.lt hrx.out _ rfl
     have NE := hid (show gX' ≠ gY' by
      rcases OR6.out with h | h <;> rcases horY with h2 | h2
      ·rw [h,h2]; exact hne.out
      ·have := xlt.2; simp at h2; omega
      ·rw [h2,h]; simp; have := ylt5.2; omega
      ·have := xlt.2; simp at h2; omega)
     have HX7 := hid (show w7.ownsRow (w.heap.size + 2) 3 1 (.slice (some ⟨gX',0,none⟩) (j + 1) cX') (j + 1) ((xs.take (j + 1)).map (.int .i64)) by
      have h1 := (HX6.out.alloc (.cells #[.int .i64 b] 3)).kept hgY (.inr (ne_own (fun e => by
       rcases OR6.out with h | h
       ·exact hne.out (h.symm.trans e.symm)
       ·simp at h; have h9 : gY < w5.heap.size := ylt5.2; omega)))
      rw [TX.out,List.map_append]; exact h1)
     have HY7 := hid (show w7.ownsRow (w.heap.size + 2) 3 1 (.slice (some ⟨gY',0,none⟩) (j + 1) cY') (j + 1) ((ys.take (j + 1)).map (.int .i64)) by
      rw [TY.out,List.map_append]; exact hownY')
     have HB7 := hid (show Below (w.heap.size + 2) w5 w7 from
      ((((Below.refl _ _).alloc W5.out _).grown HG6.out (le_alloc W5.out _) (fun k2 hk2 => by injection hk2 with h; omega)).alloc W6.out _).grown hgY (le_alloc W6.out _) (fun k2 hk2 => by injection hk2 with h; omega))
     clear hownY' hgY horY hownY xlt ylt ylt5 xlt0
     go_wp2_with fail
     go_roundg g
     case measure => omega
     case rel => exact ⟨j + 1,gX',cX',gY',cY',hj'.out,rfl,rfl,by go_num,HX7.out,HY7.out,NE.out,(Below.next HB.out HB5.out).trans (HB7.out.mono (by omega)),(HB7.out.block _ (by omega)).trans (heap_keep hh0.out HB5.out),(HB7.out.block _ (by omega)).trans (heap_keep hh1.out HB5.out)⟩
    ·obtain rfl : j = k := by omega
     have hji : ¬ ((j : Int) < j) := by omega
     have HXF := hid (show wr.ownsRow (w.heap.size + 2) 3 1 (.slice (some ⟨gX,0,none⟩) j cX) j (xs.map (.int .i64)) by have := hrx.out; rwa [List.take_of_length_le (by rw [HLX.out]; exact Nat.le_refl _)] at this)
     have HYF := hid (show wr.ownsRow (w.heap.size + 2) 3 1 (.slice (some ⟨gY,0,none⟩) j cY) j (ys.map (.int .i64)) by have := hry.out; rwa [List.take_of_length_le (by rw [HLY.out]; exact Nat.le_refl _)] at this)
     have hl1 : w.heap.size + 1 < wr.heap.size := lt_of_get hh1.out
     have hl0 : w.heap.size < wr.heap.size := by omega
     obtain ⟨a0,f0⟩ := box_cell hh0.out (j := 0) rfl
     obtain ⟨a1,f1⟩ := box_cell hh0.out (j := 1) rfl
     obtain ⟨a2,f2⟩ := box_cell hh0.out (j := 2) rfl
     obtain ⟨b0,e0⟩ := box_cell hh1.out (j := 0) rfl
     obtain ⟨b1,e1⟩ := box_cell hh1.out (j := 1) rfl
     obtain ⟨b2,e2⟩ := box_cell hh1.out (j := 2) rfl
     clear hj hjk hb
     go_wp2
     refine bodyPost_ret (v := .agg #[.slice A j c, .slice (some ⟨gX,0,none⟩) j cX, .slice (some ⟨gY,0,none⟩) j cY]) (by simp [results,Tryz.results76,go_sem, *]) rfl ?_
     obtain ⟨bx,hx8⟩ := row_sl (row_set_off (row_set_off (row_set_off (row_set_off (row_set_off HXF.out (show w.heap.size + 1 < w.heap.size + 2 by omega)) (show w.heap.size + 1 < w.heap.size + 2 by omega)) (show w.heap.size < w.heap.size + 2 by omega)) (show w.heap.size < w.heap.size + 2 by omega)) (show w.heap.size < w.heap.size + 2 by omega)) (fun x hx => by have := HSX.out x hx; constructor <;> omega)
     obtain ⟨by_,hy8⟩ := row_sl (row_set_off (row_set_off (row_set_off (row_set_off (row_set_off HYF.out (show w.heap.size + 1 < w.heap.size + 2 by omega)) (show w.heap.size + 1 < w.heap.size + 2 by omega)) (show w.heap.size < w.heap.size + 2 by omega)) (show w.heap.size < w.heap.size + 2 by omega)) (show w.heap.size < w.heap.size + 2 by omega)) (fun x hx => by have := HSY.out x hx; constructor <;> omega)
     refine ⟨_,rfl,⟨A,c,gX,0,cX,gY,0,cY,bx,by_,rfl,hx8,hy8⟩, ?_⟩
     have hbb := HB.out
     exact Below.go
end Go.Proofs.YtpfipnankjeokaaGreat.X
