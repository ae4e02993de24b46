/- Part of a claim's proof: texts of this repository's wip,joined by prune.py,without the theorems that the claim does not reach. -/
import Derived.Test.YtpfipnankjeokaaGreatY18
import Derived.Test.YtpfipnankjeokaaGreatY2
import Derived.Deep.RegionHeld3
set_option linter.constructorNameAsVariable false
namespace Go.XB
open Go.RowKit
def MP.eqS {α : Type} [Dat α] (v : Value) (x : α) : MP := ⟨fun u bs w => u = v ∧ bs = [] ∧ ∃ s,Agg w u x s,fun u bs w w' hb h => by
 obtain ⟨h1,h2,s,hs⟩ := h; exact ⟨h1,h2,s,hs.below hb⟩⟩
end Go.XB
namespace Go.Proofs.YtpfipnankjeokaaGreat.X
open Go.RowKit Go.XB Go.XN
def c3 (a b c : TPoint) (i : Nat) : TPoint := [a,b,c].getD (i % 3) pt0
def gradN (a b c : TPoint) (i : Nat) : TPoint := ⟨rsub (c3 a b c (i + 1)).y (c3 a b c (i + 2)).y,rsub (c3 a b c (i + 2)).x (c3 a b c (i + 1)).x⟩
def gradP (a b c : TPoint) (i : Nat) : TPoint := ⟨rdiv (gradN a b c i).x (darea a b c),rdiv (gradN a b c i).y (darea a b c)⟩
def gradTo (a b c : TPoint) : Nat → List TPoint
 | 0 => []
 | k + 1 => gradTo a b c k ++ [gradP a b c k]
def gradL (a b c : TPoint) : List TPoint := gradTo a b c 3
theorem gradTo_len (a b c : TPoint) : ∀ k,(gradTo a b c k).length = k
 | 0 => rfl
 | k + 1 => by rw [gradTo,List.length_append,gradTo_len a b c k]; rfl
theorem ptDat {w : World} {y : TPoint} {u0 u1 u2 u3 u4 u5 : Value} {b : List Nat} (h : Agg w (.agg #[u0,u1,u2,u3,u4,u5]) y b) : Dat.at_ w [u0,u1,u2,u3,u4,u5] y b := by
 obtain ⟨cs,he,hd⟩ := h
 have e2 : cs = [u0,u1,u2,u3,u4,u5] := by have := congrArg (fun v => match v with | .agg c => c.toList | _ => []) he; simpa using this.symm
 rw [← e2]; exact hd
theorem ptX {w : World} {x : TPoint} {u0 u1 u2 u3 u4 u5 : Value} {b : List Nat} (h : Agg w (.agg #[u0,u1,u2,u3,u4,u5]) x b) : ∃ b1,Agg w (.agg #[u0,u1,u2]) x.x b1 ∧ ∀ g ∈ b1,g ∈ b := by
 obtain ⟨A1,nA1,cA1,s1,A2,nA2,cA2,s2,A4,nA4,cA4,s4,A5,nA5,cA5,s5,e,rfl,h1,h2,h4,h5⟩ := TPoint.agg h
 injection e with e
 simp at e
 obtain ⟨rfl,rfl,rfl, _⟩ := e
 exact ⟨_,TRat.mkAgg h1 h2,fun g hg => by simp at hg ⊢; rcases hg with h | h <;> simp [h]⟩
theorem ptY {w : World} {x : TPoint} {u0 u1 u2 u3 u4 u5 : Value} {b : List Nat} (h : Agg w (.agg #[u0,u1,u2,u3,u4,u5]) x b) : ∃ b1,Agg w (.agg #[u3,u4,u5]) x.y b1 ∧ ∀ g ∈ b1,g ∈ b := by
 obtain ⟨A1,nA1,cA1,s1,A2,nA2,cA2,s2,A4,nA4,cA4,s4,A5,nA5,cA5,s5,e,rfl,h1,h2,h4,h5⟩ := TPoint.agg h
 injection e with e
 simp at e
 obtain ⟨_, _, _,rfl,rfl,rfl⟩ := e
 exact ⟨_,TRat.mkAgg h4 h5,fun g hg => by simp at hg ⊢; rcases hg with h | h <;> simp [h]⟩
theorem pt_ok_x {p q : TRat} (h : ptOkB ⟨p,q⟩ = true) : ratOkB p = true := by
 unfold ptOkB at h; simp at h; exact h.1
theorem pt_ok_y {p q : TRat} (h : ptOkB ⟨p,q⟩ = true) : ratOkB q = true := by
 unfold ptOkB at h; simp at h; exact h.2
theorem ok_den {p : TRat} (h : ratOkB p = true) : (!p.den.isEmpty) = true := by
 have := (ratOkB_iff.1 h).den0
 cases hd : p.den with
 | nil => rw [hd] at this; exact absurd this (by decide)
 | cons a l => rfl
structure GradOk (a b c : TPoint) : Prop where
 pr : properB [a,b,c] = true
 d : ratOkB (darea a b c) = true
 d0 : (darea a b c).num.mag ≠ []
 s : ∀ i,i < 3 → ptOkB (gradN a b c i) = true
 g : ∀ i,i < 3 → ptOkB (gradP a b c i) = true
attribute [local go_sem] fillBy Go.XB.opAt deps depOf Region.wanted yielded
attribute [local simp] deps depOf MP.eq MP.agg MP.sl MP.slbox MP.box MP.eqS Facts
set_option maxHeartbeats 8000000 in
set_option maxRecDepth 10000 in
theorem impl_Gradients (A : Option Addr) (c : Nat) (a1 b1 c1 : TPoint) (bs : List Nat) (w : World) (hx : Sl w A 3 c [a1,b1,c1] bs) (hg : GradOk a1 b1 c1) :
  Calls Tryz.prog 183 #[.slice A 3 c] w (GivesSl w (gradL a1 b1 c1)) := by
 have HX := hid hx; have HG := hid hg
 obtain ⟨i0,hi,hz0,hz1,hz2⟩ := info_parts infoPt
 obtain ⟨be0,of0,a2,P1,nP1,cP1,p1,P2,nP2,cP2,p2,P4,nP4,cP4,p4,P5,nP5,cP5,p5,hA0,hbl0,hx0,Pe0,Pe1,Pe2,Pe3,Pe4,Pe5,hg0⟩ := TPoint.elemA HX.out (show 0 < 3 by decide)
 obtain ⟨be1,of1,b2,Q1,nQ1,cQ1,q1,Q2,nQ2,cQ2,q2,Q4,nQ4,cQ4,q4,Q5,nQ5,cQ5,q5,hA1,hbl1,hx1,Qe0,Qe1,Qe2,Qe3,Qe4,Qe5,hg1⟩ := TPoint.elemA HX.out (show 1 < 3 by decide)
 obtain ⟨be2,of2,c2,R1,nR1,cR1,r1,R2,nR2,cR2,r2,R4,nR4,cR4,r4,R5,nR5,cR5,r5,hA2,hbl2,hx2,Re0,Re1,Re2,Re3,Re4,Re5,hg2⟩ := TPoint.elemA HX.out (show 2 < 3 by decide)
 subst hA0
 injection hA1 with hA1; injection hA1 with h1 h2 _; subst h1; subst h2
 injection hA2 with hA2; injection hA2 with h1 h2 _; subst h1; subst h2
 simp at hx0 hx1 hx2
 subst hx0; subst hx1; subst hx2
 simp at Pe0 Pe1 Pe2 Pe3 Pe4 Pe5 Qe0 Qe1 Qe2 Qe3 Qe4 Qe5 Re0 Re1 Re2 Re3 Re4 Re5
 have HA := hid hg0; have HB := hid hg1; have HC := hid hg2
 clear hbl1 hbl2 hg0 hg1 hg2 hx hg
 go_enter Tryz.func183,Tryz.ntmps183
 go_wp2_with fail
 have CP := impl_IsProper (some ⟨be0,of0,none⟩) 3 c [a1,b1,c1] bs w HX.out
 rw [HG.out.pr] at CP
 refine CP.mono ?_
 clear CP
 rintro _ w1 ⟨rfl,hb1⟩
 obtain ⟨hc_w1,hf_w1⟩ := bcell hb1
 have HB1 := hid hb1
 have hbe1 : be0 < w1.heap.size := by have := hb1.size; omega
 clear hb1
 go_wp2_with fail
 refine wp_region_last (by simp) (by kernel_rfl) (by kernel_rfl) (by kernel_rfl) (by kernel_rfl) ?_
 dsimp only [List.dropLast,List.getLast,List.length]
 iterate 9
  apply walkM_eq
  case h =>
   intro yq zq wq hC hd
   obtain ⟨hcq,hfq⟩ := bcell hC
   simp at hd
   refine ⟨by go_simp; done, ?_⟩
   go_simp
   first | (go_ints; exact rfl) | (go_ints; rw [if_pos (by omega)]; try exact rfl) | exact rfl | (rw [if_pos (by omega)]; try exact rfl)
 refine walkM_call (MP.agg (darea a1 b1 c1)) ?_ ?_
 ·intro yq zq wq hC hd
  obtain ⟨hcq,hfq⟩ := bcell hC
  simp at hd
  refine ⟨by go_simp; done, ?_⟩
  apply Exists.intro
  apply Exists.intro
  constructor
  ·go_simp
   exact ⟨rfl,rfl⟩
  ·exact gives_agg (impl_DoubleArea _ _ _ a1 b1 c1 _ _ _ wq ((HA.out.below HB1.out).below Below.go) ((HB.out.below HB1.out).below Below.go) ((HC.out.below HB1.out).below Below.go))
 refine walkM_new #[.bool false, .slice none 0 0, .slice none 0 0] 32 ?_ ?_
 ·intro yq zq wq hC hd
  refine ⟨by go_simp; done, ?_⟩
  go_simp
 intro yq zq wa hC hd hdis0
 have hdis := hid hdis0
 clear hdis0
 simp at hd
 have q9 := hd.2.2.2.2.2.2.2.2.2.1
 have q10 := hd.2.2.2.2.2.2.2.2.2.2
 obtain ⟨⟨ha9,hf9⟩,hr9⟩ := q9
 obtain ⟨⟨gd,e10,z10,hgd⟩,hr10⟩ := q10
 obtain ⟨V1,nV1,cV1,v1,V2,nV2,cV2,v2,e9,hz9, _, _⟩ := TRat.agg ha9
 rw [e9] at ha9
 have hdd := hdis.out 9 10 (by decide) (by decide) (by decide)
 rw [z10] at hdd hr10
 have hgdl := lt_of_get hgd
 have hgd1 : w1.heap.size ≤ gd := (hr10 gd (by simp)).1
 have hgn : gd ∉ zq 9 := fun h => hdd gd h (by simp)
 obtain ⟨d0,f0⟩ := box_cell hgd (j := 0) rfl
 obtain ⟨d1,f1⟩ := box_cell hgd (j := 1) rfl
 obtain ⟨d2,f2⟩ := box_cell hgd (j := 2) rfl
 obtain ⟨W2,hW2⟩ : ∃ W2,W2 = (((wa.setCell ⟨gd,0,none⟩ (.bool (darea a1 b1 c1).num.neg)).setCell ⟨gd,1,none⟩ (.slice V1 nV1 cV1)).setCell ⟨gd,2,none⟩ (.slice V2 nV2 cV2)) := ⟨_,rfl⟩
 have hlow := HB1.out.size
 have BW2 := hid (show Below w.heap.size w W2 by
  rw [hW2]
  exact ((((Below.next HB1.out hC)).setCell (p := ⟨gd,0,none⟩) (by simp; omega) _).setCell (p := ⟨gd,1,none⟩) (by simp; omega) _).setCell (p := ⟨gd,2,none⟩) (by simp; omega) _)
 have AG2 := hid (show Agg W2 (.agg #[.bool (darea a1 b1 c1).num.neg, .slice V1 nV1 cV1, .slice V2 nV2 cV2]) (darea a1 b1 c1) (zq 9) by
  rw [hW2]; exact ha9.keep (fun b hb => heap_set3 b (fun e => hgn (e ▸ hb))))
 have CL2 := hid (show W2.cell? ⟨gd,0,none⟩ = some (.bool (darea a1 b1 c1).num.neg) ∧ W2.cell? ⟨gd,1,none⟩ = some (.slice V1 nV1 cV1) ∧ W2.cell? ⟨gd,2,none⟩ = some (.slice V2 nV2 cV2) ∧ gd < W2.heap.size by
  rw [hW2]; refine ⟨by go_simp,by go_simp,by go_simp,by simp [World.setCell]; exact hgdl⟩)
 have hW2' := hid hW2
 have SZ2 := hid (show wa.heap.size = W2.heap.size by rw [hW2]; simp [World.setCell])
 generalize zq 9 = z9 at *
 clear hd hdis ha9 hf9 hr9 hr10 hgd hdd hz9 hC hW2 hgn
 go_wp2_with fail
 rw [← hW2'.out]
 have P0 := hid (Pend.start (α := TPoint) (e := 34) BW2.out)
 clear Re1 Re2 Re4 Re5 Re0 Re3 Pe0 Pe1 Pe2 Pe3 Pe4 Pe5 Qe0 Qe1 Qe2 Qe3 Qe4 Qe5 HA HB HC hbe1
 clear hW2' hgdl hgd1 d0 d1 d2 f0 f1 f2 hc_w1 hf_w1
 go_loopg [4,25] 3 (fun g s4 s wr => ∃ (k gB cap : Nat),k + g = 3 ∧ s = .int .i64 k ∧ s4 = .slice (some ⟨gB,0,none⟩) k cap ∧ Hid (Pend w W2 34 wr gB k cap (gradTo a1 b1 c1 k)))
 case atStart => exact ⟨0,W2.heap.size,0,by omega,rfl,by rw [SZ2.out],P0.out⟩
 case round =>
  clear P0
  obtain ⟨k,gB,cap,hk,rfl,rfl,HP⟩ := hrel
  have HBW := hid HP.out.bw
  have HBB := hid HP.out.bb
  rcases Nat.lt_or_ge k 3 with hk3 | hk3
  ·have hki : (k : Int) < 3 := by omega
   have hki0 : (0 : Int) ≤ k := by omega
   obtain ⟨g,rfl⟩ : ∃ g,gk = g + 1 := ⟨gk - 1,by omega⟩
   have hk' := hid (show k + 1 + g = 3 by omega)
   obtain ⟨j1,hj1⟩ : ∃ j1,j1 = (k + 1) % 3 := ⟨_,rfl⟩
   obtain ⟨j2,hj2⟩ : ∃ j2,j2 = (k + 2) % 3 := ⟨_,rfl⟩
   have hj13 : j1 < 3 := by omega
   have hj23 : j2 < 3 := by omega
   have hj1i : (j1 : Int) < 3 := by omega
   have hj2i : (j2 : Int) < 3 := by omega
   have hj1n : (0 : Int) ≤ j1 := by omega
   have hj2n : (0 : Int) ≤ j2 := by omega
   have hwk1 : IntKind.i64.wrap ((k : Int) + 1) = (k : Int) + 1 := by rw [IntKind.wrap_i64]; omega
   have hwk2 : IntKind.i64.wrap ((k : Int) + 2) = (k : Int) + 2 := by rw [IntKind.wrap_i64]; omega
   have hwj1 : IntKind.i64.wrap (j1 : Int) = (j1 : Int) := by rw [IntKind.wrap_i64]; omega
   have hwj2 : IntKind.i64.wrap (j2 : Int) = (j2 : Int) := by rw [IntKind.wrap_i64]; omega
   have hm1 : Int.tmod ((k : Int) + 1) 3 = j1 := by rw [Int.tmod_eq_emod_of_nonneg (by omega)]; omega
   have hm2 : Int.tmod ((k : Int) + 2) 3 = j2 := by rw [Int.tmod_eq_emod_of_nonneg (by omega)]; omega
   obtain ⟨bj,oj,x,J1,nJ1,cJ1,jj1,J2,nJ2,cJ2,jj2,J4,nJ4,cJ4,jj4,J5,nJ5,cJ5,jj5,hAj,hblj,hxj,Je0,Je1,Je2,Je3,Je4,Je5,hgj⟩ := TPoint.elemA (HX.out.below HBW.out) hj13
   obtain ⟨bk,ok,y,K1,nK1,cK1,kk1,K2,nK2,cK2,kk2,K4,nK4,cK4,kk4,K5,nK5,cK5,kk5,hAk,hblk,hxk,Ke0,Ke1,Ke2,Ke3,Ke4,Ke5,hgk⟩ := TPoint.elemA (HX.out.below HBW.out) hj23
   injection hAj with hAj; injection hAj with h1 h2 _; subst h1; subst h2
   injection hAk with hAk; injection hAk with h1 h2 _; subst h1; subst h2
   have HGJ := hid hgj; have HGK := hid hgk
   have EX := hid (show c3 a1 b1 c1 (k + 1) = x by unfold c3; rw [← hj1]; exact getD_of hxj)
   have EY := hid (show c3 a1 b1 c1 (k + 2) = y by unfold c3; rw [← hj2]; exact getD_of hxk)
   have HJ1 := hid hj1; have HJ2 := hid hj2
   clear hk hxj hxk hgj hgk hj1 hj2 hblk
   have hgr : gd < wr.heap.size := by have := CL2.out.2.2.2; have := HBB.out.size; omega
   have m0 : wr.cell? ⟨gd,0,none⟩ = some (.bool (darea a1 b1 c1).num.neg) := (HBB.out.cell (p := ⟨gd,0,none⟩) CL2.out.2.2.2).trans CL2.out.1
   have m1 : wr.cell? ⟨gd,1,none⟩ = some (.slice V1 nV1 cV1) := (HBB.out.cell (p := ⟨gd,1,none⟩) CL2.out.2.2.2).trans CL2.out.2.1
   have m2 : wr.cell? ⟨gd,2,none⟩ = some (.slice V2 nV2 cV2) := (HBB.out.cell (p := ⟨gd,2,none⟩) CL2.out.2.2.2).trans CL2.out.2.2.1
   have AGR := hid (AG2.out.below HBB.out)
   obtain ⟨xb1,xp1, _⟩ := ptX HGJ.out
   obtain ⟨xb2,xp2, _⟩ := ptY HGJ.out
   obtain ⟨yb1,yp1, _⟩ := ptX HGK.out
   obtain ⟨yb2,yp2, _⟩ := ptY HGK.out
   have XP1 := hid xp1; have XP2 := hid xp2; have YP1 := hid yp1; have YP2 := hid yp2
   have EN := hid (show gradN a1 b1 c1 k = ⟨rsub x.y y.y,rsub y.x x.x⟩ by unfold gradN; rw [EX.out,EY.out])
   have EG := hid (show gradP a1 b1 c1 k = ⟨rdiv (rsub x.y y.y) (darea a1 b1 c1),rdiv (rsub y.x x.x) (darea a1 b1 c1)⟩ by unfold gradP; rw [EN.out])
   have ON := HG.out.s k hk3
   rw [EN.out] at ON
   have O1 := hid (pt_ok_x ON); have O2 := hid (pt_ok_y ON)
   have og := HG.out.g k hk3
   have OG := hid og
   have OX := hid (show ratOkB (gradP a1 b1 c1 k).x = true from pt_ok_x (q := (gradP a1 b1 c1 k).y) og); have OY := hid (show ratOkB (gradP a1 b1 c1 k).y = true from pt_ok_y (p := (gradP a1 b1 c1 k).x) og)
   clear og
   clear ON xp1 xp2 yp1 yp2
   go_wp2_with fail
   go_region_held3 (fun w' => w'.cell? ⟨be0,of0 + j1 * 6,none⟩ = some (.bool x.x.num.neg) ∧ w'.cell? ⟨be0,of0 + j1 * 6 + 1,none⟩ = some (.slice J1 nJ1 cJ1) ∧ w'.cell? ⟨be0,of0 + j1 * 6 + 2,none⟩ = some (.slice J2 nJ2 cJ2) ∧ w'.cell? ⟨be0,of0 + j1 * 6 + 3,none⟩ = some (.bool x.y.num.neg) ∧ w'.cell? ⟨be0,of0 + j1 * 6 + 4,none⟩ = some (.slice J4 nJ4 cJ4) ∧ w'.cell? ⟨be0,of0 + j1 * 6 + 5,none⟩ = some (.slice J5 nJ5 cJ5) ∧ w'.cell? ⟨be0,of0 + j2 * 6,none⟩ = some (.bool y.x.num.neg) ∧ w'.cell? ⟨be0,of0 + j2 * 6 + 1,none⟩ = some (.slice K1 nK1 cK1) ∧ w'.cell? ⟨be0,of0 + j2 * 6 + 2,none⟩ = some (.slice K2 nK2 cK2) ∧ w'.cell? ⟨be0,of0 + j2 * 6 + 3,none⟩ = some (.bool y.y.num.neg) ∧ w'.cell? ⟨be0,of0 + j2 * 6 + 4,none⟩ = some (.slice K4 nK4 cK4) ∧ w'.cell? ⟨be0,of0 + j2 * 6 + 5,none⟩ = some (.slice K5 nK5 cK5)) ((go_simp; done)) (fail)
   ·rename_i hh
    clear hh
    obtain ⟨Wd,hWd⟩ : ∃ Wd,Wd = ((wr.alloc (.cells #[.bool x.x.num.neg, .slice J1 nJ1 cJ1, .slice J2 nJ2 cJ2, .bool x.y.num.neg, .slice J4 nJ4 cJ4, .slice J5 nJ5 cJ5] 34)).alloc (.cells #[.bool y.x.num.neg, .slice K1 nK1 cK1, .slice K2 nK2 cK2, .bool y.y.num.neg, .slice K4 nK4 cK4, .slice K5 nK5 cK5] 34)).drew := ⟨_,rfl⟩
    have HWd := hid (show Below wr.heap.size wr Wd by rw [hWd]; exact Below.drew (Below.next (Below.box _) (Below.box _)))
    have hz6 : wr.heap.size < Wd.heap.size := by rw [hWd]; show _ < ((wr.alloc _).alloc _).heap.size; simp <;> omega
    have hz7 : wr.heap.size + 1 < Wd.heap.size := by rw [hWd]; show _ < ((wr.alloc _).alloc _).heap.size; simp <;> omega
    have jd0 : Wd.cell? ⟨wr.heap.size,0,none⟩ = some (.bool x.x.num.neg) := by rw [hWd]; go_simp
    have jd1 : Wd.cell? ⟨wr.heap.size,1,none⟩ = some (.slice J1 nJ1 cJ1) := by rw [hWd]; go_simp
    have jd2 : Wd.cell? ⟨wr.heap.size,2,none⟩ = some (.slice J2 nJ2 cJ2) := by rw [hWd]; go_simp
    have jd3 : Wd.cell? ⟨wr.heap.size,3,none⟩ = some (.bool x.y.num.neg) := by rw [hWd]; go_simp
    have jd4 : Wd.cell? ⟨wr.heap.size,4,none⟩ = some (.slice J4 nJ4 cJ4) := by rw [hWd]; go_simp
    have jd5 : Wd.cell? ⟨wr.heap.size,5,none⟩ = some (.slice J5 nJ5 cJ5) := by rw [hWd]; go_simp
    have kd0 : Wd.cell? ⟨wr.heap.size + 1,0,none⟩ = some (.bool y.x.num.neg) := by rw [hWd]; go_simp
    have kd1 : Wd.cell? ⟨wr.heap.size + 1,1,none⟩ = some (.slice K1 nK1 cK1) := by rw [hWd]; go_simp
    have kd2 : Wd.cell? ⟨wr.heap.size + 1,2,none⟩ = some (.slice K2 nK2 cK2) := by rw [hWd]; go_simp
    have kd3 : Wd.cell? ⟨wr.heap.size + 1,3,none⟩ = some (.bool y.y.num.neg) := by rw [hWd]; go_simp
    have kd4 : Wd.cell? ⟨wr.heap.size + 1,4,none⟩ = some (.slice K4 nK4 cK4) := by rw [hWd]; go_simp
    have kd5 : Wd.cell? ⟨wr.heap.size + 1,5,none⟩ = some (.slice K5 nK5 cK5) := by rw [hWd]; go_simp
    rw [← hWd]
    have hgl : gd < Wd.heap.size := by have := HWd.out.size; omega
    have l0 : Wd.cell? ⟨gd,0,none⟩ = some (.bool (darea a1 b1 c1).num.neg) := (HWd.out.cell (p := ⟨gd,0,none⟩) hgr).trans m0
    have l1 : Wd.cell? ⟨gd,1,none⟩ = some (.slice V1 nV1 cV1) := (HWd.out.cell (p := ⟨gd,1,none⟩) hgr).trans m1
    have l2 : Wd.cell? ⟨gd,2,none⟩ = some (.slice V2 nV2 cV2) := (HWd.out.cell (p := ⟨gd,2,none⟩) hgr).trans m2
    clear hWd m0 m1 m2
    go_wp2_with fail
    refine wp_region_last (by simp) (by kernel_rfl) (by kernel_rfl) (by kernel_rfl) (by kernel_rfl) ?_
    dsimp only [List.dropLast,List.getLast,List.length]
    iterate 4
     apply walkM_eq
     case h =>
      intro yq zq wq hC hd
      obtain ⟨hcq,hfq⟩ := bcell hC
      simp at hd
      refine ⟨by go_simp; done, ?_⟩
      go_simp
      first | (go_ints; exact rfl) | (go_ints; rw [if_pos (by omega)]; try exact rfl) | exact rfl | (rw [if_pos (by omega)]; try exact rfl)
    refine walkM_call (MP.agg (rsub x.y y.y)) ?_ ?_
    ·intro yq zq wq hC hd
     obtain ⟨hcq,hfq⟩ := bcell hC
     simp at hd
     refine ⟨by go_simp; done, ?_⟩
     apply Exists.intro
     apply Exists.intro
     constructor
     ·go_simp
      exact ⟨rfl,rfl⟩
     ·exact gives_agg (impl_RatSub _ _ x.y y.y _ _ wq (XP2.out.below (Below.next HWd.out hC)) (YP2.out.below (Below.next HWd.out hC)))
    apply walkM_eq
    case h =>
     intro yq zq wq hC hd
     obtain ⟨hcq,hfq⟩ := bcell hC
     simp at hd
     refine ⟨by go_simp; done, ?_⟩
     go_simp
     first | (go_ints; exact rfl) | (go_ints; rw [if_pos (by omega)]; try exact rfl) | exact rfl | (rw [if_pos (by omega)]; try exact rfl)
    refine walkM_call (MP.agg (rdiv (rsub x.y y.y) (darea a1 b1 c1))) ?_ ?_
    ·intro yq zq wq hC hd
     obtain ⟨hcq,hfq⟩ := bcell hC
     simp at hd
     refine ⟨by go_simp; done, ?_⟩
     apply Exists.intro
     apply Exists.intro
     constructor
     ·go_simp
      exact ⟨rfl,rfl⟩
     ·obtain ⟨t1, _⟩ := hd
      exact gives_agg (impl_RatDiv _ _ (rsub x.y y.y) (darea a1 b1 c1) _ _ wq t1.1 (AGR.out.below (Below.next HWd.out hC)) O1.out HG.out.d HG.out.d0)
    iterate 4
     apply walkM_eq
     case h =>
      intro yq zq wq hC hd
      obtain ⟨hcq,hfq⟩ := bcell hC
      simp at hd
      refine ⟨by go_simp; done, ?_⟩
      go_simp
      first | (go_ints; exact rfl) | (go_ints; rw [if_pos (by omega)]; try exact rfl) | exact rfl | (rw [if_pos (by omega)]; try exact rfl)
    refine walkM_call (MP.agg (rsub y.x x.x)) ?_ ?_
    ·intro yq zq wq hC hd
     obtain ⟨hcq,hfq⟩ := bcell hC
     simp at hd
     refine ⟨by go_simp; done, ?_⟩
     apply Exists.intro
     apply Exists.intro
     constructor
     ·go_simp
      exact ⟨rfl,rfl⟩
     ·exact gives_agg (impl_RatSub _ _ y.x x.x _ _ wq (YP1.out.below (Below.next HWd.out hC)) (XP1.out.below (Below.next HWd.out hC)))
    apply walkM_eq
    case h =>
     intro yq zq wq hC hd
     obtain ⟨hcq,hfq⟩ := bcell hC
     simp at hd
     refine ⟨by go_simp; done, ?_⟩
     go_simp
     first | (go_ints; exact rfl) | (go_ints; rw [if_pos (by omega)]; try exact rfl) | exact rfl | (rw [if_pos (by omega)]; try exact rfl)
    refine walkM_call (MP.agg (rdiv (rsub y.x x.x) (darea a1 b1 c1))) ?_ ?_
    ·intro yq zq wq hC hd
     obtain ⟨hcq,hfq⟩ := bcell hC
     simp at hd
     refine ⟨by go_simp; done, ?_⟩
     apply Exists.intro
     apply Exists.intro
     constructor
     ·go_simp
      exact ⟨rfl,rfl⟩
     ·obtain ⟨t1, _⟩ := hd
      exact gives_agg (impl_RatDiv _ _ (rsub y.x x.x) (darea a1 b1 c1) _ _ wq t1.1 (AGR.out.below (Below.next HWd.out hC)) O2.out HG.out.d HG.out.d0)
    refine walkM_runD (fun y' => MP.eqS (.agg ((y' 6).cells ++ (y' 13).cells)) (gradP a1 b1 c1 k)) (by intro y y' h; simp [deps,depOf] at h; simp [h]) ?_ ?_
    ·intro yq zq wq hC hd
     simp at hd
     obtain ⟨⟨h6, _⟩,h13, _⟩ := hd
     obtain ⟨D1,nD1,cD1,d1,D2,nD2,cD2,d2,e6,z6, _, _⟩ := TRat.agg h6
     obtain ⟨D4,nD4,cD4,d4,D5,nD5,cD5,d5,e13,z13, _, _⟩ := TRat.agg h13
     rw [e6] at h6
     rw [e13] at h13
     have HJN := hid (show Agg wq (.agg #[.bool (rdiv (rsub x.y y.y) (darea a1 b1 c1)).num.neg, .slice D1 nD1 cD1, .slice D2 nD2 cD2, .bool (rdiv (rsub y.x x.x) (darea a1 b1 c1)).num.neg, .slice D4 nD4 cD4, .slice D5 nD5 cD5]) (gradP a1 b1 c1 k) (zq 6 ++ zq 13) by rw [EG.out]; exact pt_join (x := ⟨_, _⟩) h6 h13)
     clear h6 h13 z6 z13
     refine ⟨by go_simp; done, .agg #[.bool (rdiv (rsub x.y y.y) (darea a1 b1 c1)).num.neg, .slice D1 nD1 cD1, .slice D2 nD2 cD2, .bool (rdiv (rsub y.x x.x) (darea a1 b1 c1)).num.neg, .slice D4 nD4 cD4, .slice D5 nD5 cD5],wq, ?_,Below.refl _ _, [],⟨by rw [e6,e13]; rfl,rfl, _,HJN.out⟩,by simp⟩
     go_simp
    refine walkM_callD (fun y' => MP.eqS (y' 14) (gradP a1 b1 c1 k)) (by intro y y' h; simp [deps,depOf] at h; simp [h]) ?_ ?_
    ·intro yq zq wq hC hd
     obtain ⟨hcq,hfq⟩ := bcell hC
     simp at hd
     obtain ⟨⟨h14,h14z,s14,h14a⟩,h13, _⟩ := hd
     have HJN := hid h14a
     have C := impl_ifPoint (yq 14) (gradP a1 b1 c1 k) _ wq h14a ((ok_den OX.out).trans OX.out.symm) ((ok_den OY.out).trans OY.out.symm)
     rw [OG.out] at C
     have HCC := hid C
     clear h14 h14a h13 C
     refine ⟨by go_simp; done, ?_⟩
     apply Exists.intro
     apply Exists.intro
     constructor
     ·go_simp
      exact ⟨rfl,rfl⟩
     ·exact HCC.out.mono (fun e w' ⟨he,hb⟩ => ⟨yq 14,he,hb, [],⟨rfl,rfl, _,HJN.out.below hb⟩,by simp⟩)
    refine walkM_new #[.bool false, .slice none 0 0, .slice none 0 0, .bool false, .slice none 0 0, .slice none 0 0] 34 ?_ ?_
    ·intro yq zq wq hC hd
     refine ⟨by go_simp; done, ?_⟩
     go_simp
    intro yq zq wb hC hd hdis0
    have hdis := hid hdis0
    clear hdis0
    simp at hd
    have q6 := hd.2.2.2.2.2.2.1
    have q13 := hd.2.2.2.2.2.2.2.2.2.2.2.2.2.1
    have q14 := hd.2.2.2.2.2.2.2.2.2.2.2.2.2.2.1
    have q15 := hd.2.2.2.2.2.2.2.2.2.2.2.2.2.2.2.1
    have q16 := hd.2.2.2.2.2.2.2.2.2.2.2.2.2.2.2.2
    obtain ⟨⟨ha6,hf6⟩,hr6⟩ := q6
    obtain ⟨⟨ha13,hf13⟩,hr13⟩ := q13
    obtain ⟨⟨e14,z14, _⟩, _⟩ := q14
    obtain ⟨⟨e15,z15, _⟩, _⟩ := q15
    obtain ⟨⟨g8,e16,z16,hg8⟩,hr16⟩ := q16
    obtain ⟨D1,nD1,cD1,d1,D2,nD2,cD2,d2,e6,z6, _, _⟩ := TRat.agg ha6
    obtain ⟨D4,nD4,cD4,d4,D5,nD5,cD5,d5,e13,z13, _, _⟩ := TRat.agg ha13
    rw [e6] at ha6
    rw [e13] at ha13
    have ee : yq 15 = .agg #[.bool (rdiv (rsub x.y y.y) (darea a1 b1 c1)).num.neg, .slice D1 nD1 cD1, .slice D2 nD2 cD2, .bool (rdiv (rsub y.x x.x) (darea a1 b1 c1)).num.neg, .slice D4 nD4 cD4, .slice D5 nD5 cD5] := by rw [e15,e14,e6,e13]; rfl
    have hn6 : g8 ∉ zq 6 := fun h => (hdis.out 6 16 (by decide) (by decide) (by decide)) g8 h (by rw [z16]; simp)
    have hn13 : g8 ∉ zq 13 := fun h => (hdis.out 13 16 (by decide) (by decide) (by decide)) g8 h (by rw [z16]; simp)
    have hfj := Free.join hf6 hf13 (hdis.out 6 13 (by decide) (by decide) (by decide))
    have hpj : Agg wb (.agg #[.bool (rdiv (rsub x.y y.y) (darea a1 b1 c1)).num.neg, .slice D1 nD1 cD1, .slice D2 nD2 cD2, .bool (rdiv (rsub y.x x.x) (darea a1 b1 c1)).num.neg, .slice D4 nD4 cD4, .slice D5 nD5 cD5]) (gradP a1 b1 c1 k) (zq 6 ++ zq 13) := by rw [EG.out]; exact pt_join (x := ⟨_, _⟩) ha6 ha13
    have hrj : ∀ b ∈ zq 6 ++ zq 13,wr.heap.size ≤ b := fun b hb => by
     have := HWd.out.size
     rcases List.mem_append.1 hb with h | h
     ·have := (hr6 b h).1; omega
     ·have := (hr13 b h).1; omega
    have hnj : g8 ∉ zq 6 ++ zq 13 := fun h => (List.mem_append.1 h).elim hn6 hn13
    have hg8w : wr.heap.size ≤ g8 := by have := (hr16 g8 (by rw [z16]; simp)).1; have := HWd.out.size; omega
    have hg8l := lt_of_get hg8
    obtain ⟨d0,f0⟩ := box_cell hg8 (j := 0) rfl
    obtain ⟨d1,f1⟩ := box_cell hg8 (j := 1) rfl
    obtain ⟨d2,f2⟩ := box_cell hg8 (j := 2) rfl
    obtain ⟨d3,f3⟩ := box_cell hg8 (j := 3) rfl
    obtain ⟨d4,f4⟩ := box_cell hg8 (j := 4) rfl
    obtain ⟨d5,f5⟩ := box_cell hg8 (j := 5) rfl
    obtain ⟨W8,hW8⟩ : ∃ W8,W8 = ((((((wb.setCell ⟨g8,0,none⟩ (.bool (rdiv (rsub x.y y.y) (darea a1 b1 c1)).num.neg)).setCell ⟨g8,1,none⟩ (.slice D1 nD1 cD1)).setCell ⟨g8,2,none⟩ (.slice D2 nD2 cD2)).setCell ⟨g8,3,none⟩ (.bool (rdiv (rsub y.x x.x) (darea a1 b1 c1)).num.neg)).setCell ⟨g8,4,none⟩ (.slice D4 nD4 cD4)).setCell ⟨g8,5,none⟩ (.slice D5 nD5 cD5)) := ⟨_,rfl⟩
    have hkeep : ∀ b,b ≠ g8 → W8.heap[b]? = wb.heap[b]? := fun b hb => by rw [hW8]; exact heap_setCells g8 [.bool (rdiv (rsub x.y y.y) (darea a1 b1 c1)).num.neg, .slice D1 nD1 cD1, .slice D2 nD2 cD2, .bool (rdiv (rsub y.x x.x) (darea a1 b1 c1)).num.neg, .slice D4 nD4 cD4, .slice D5 nD5 cD5] wb 0 b hb
    have HB8 := hid (show Below wr.heap.size wr W8 by rw [hW8]; exact Below.trans (Below.next HWd.out hC) ((((((Below.refl wr.heap.size wb).setCell (p := ⟨g8,0,none⟩) hg8w _).setCell (p := ⟨g8,1,none⟩) hg8w _).setCell (p := ⟨g8,2,none⟩) hg8w _).setCell (p := ⟨g8,3,none⟩) hg8w _).setCell (p := ⟨g8,4,none⟩) hg8w _ |>.setCell (p := ⟨g8,5,none⟩) hg8w _))
    have PJ := hid (hpj.keep (fun b hb => hkeep b (fun e => hnj (e ▸ hb))))
    have FJ := hid (show Free W8 (zq 6 ++ zq 13) from ⟨hfj.1,fun b hb => by obtain ⟨cs,t,e⟩ := hfj.2 b hb; exact ⟨cs,t,(hkeep b (fun e' => hnj (e' ▸ hb))).trans e⟩⟩)
    have RJ := hid hrj
    have hsz8 : g8 < W8.heap.size := by rw [hW8]; simp [World.setCell]; exact hg8l
    have k0 : W8.cell? ⟨g8,0,none⟩ = some (.bool (rdiv (rsub x.y y.y) (darea a1 b1 c1)).num.neg) := by rw [hW8]; go_simp
    have k1 : W8.cell? ⟨g8,1,none⟩ = some (.slice D1 nD1 cD1) := by rw [hW8]; go_simp
    have k2 : W8.cell? ⟨g8,2,none⟩ = some (.slice D2 nD2 cD2) := by rw [hW8]; go_simp
    have k3 : W8.cell? ⟨g8,3,none⟩ = some (.bool (rdiv (rsub y.x x.x) (darea a1 b1 c1)).num.neg) := by rw [hW8]; go_simp
    have k4 : W8.cell? ⟨g8,4,none⟩ = some (.slice D4 nD4 cD4) := by rw [hW8]; go_simp
    have k5 : W8.cell? ⟨g8,5,none⟩ = some (.slice D5 nD5 cD5) := by rw [hW8]; go_simp
    have HW8 := hid hW8
    generalize zq 6 ++ zq 13 = zs at *
    clear hd hdis ha6 hf6 hr6 ha13 hf13 hr13 e14 e15 z14 z15 z16 hr16 hn6 hn13 hfj hpj hrj hnj hkeep hC hW8 hg8 z6 z13
    go_wp2_with fail
    rw [← HW8.out]
    obtain ⟨xb,xg, _⟩ := ptX PJ.out
    have C := impl_isRat _ (gradP a1 b1 c1 k).x _ W8 xg
    rw [ok_den OX.out] at C
    refine C.mono ?_
    clear C xg
    rintro _ w9 ⟨rfl,hb9⟩
    obtain ⟨hc_w9,hf_w9⟩ := bcell hb9
    have hsz9 : g8 < w9.heap.size := by have := hb9.size; omega
    have HB9 := hid (Below.next HB8.out hb9)
    have SIX := hid (show Below W8.heap.size W8 (w9.alloc (.cells #[.bool (rdiv (rsub x.y y.y) (darea a1 b1 c1)).num.neg, .slice D1 nD1 cD1, .slice D2 nD2 cD2, .bool (rdiv (rsub y.x x.x) (darea a1 b1 c1)).num.neg, .slice D4 nD4 cD4, .slice D5 nD5 cD5] 34)) from Below.next hb9 (Below.box _))
    have AT := hid (ptDat (PJ.out.below SIX.out))
    have FA := hid (FJ.out.below SIX.out)
    have C3 := hid (show k + 1 ≤ maxLen by unfold maxLen; omega)
    have C4 := hid (show (k + 1) * 112 ≤ 140737488355328 by omega)
    clear hb9 PJ FJ SIX
    go_wp2_with (at_builtin; refine wpList_pend rfl _ _ 23 rfl 34 i0 (.agg #[.bool false, .slice none 0 0, .slice none 0 0, .bool false, .slice none 0 0, .slice none 0 0]) 112 Tryz.underlying23 hi hz0 hz1 hz2 rfl HP.out (Below.next HB9.out (Below.box _)) (by go_simp; done) ⟨w9.heap.size,0,none⟩ 1 [.bool (rdiv (rsub x.y y.y) (darea a1 b1 c1)).num.neg, .slice D1 nD1 cD1, .slice D2 nD2 cD2, .bool (rdiv (rsub y.x x.x) (darea a1 b1 c1)).num.neg, .slice D4 nD4 cD4, .slice D5 nD5 cD5] (gradP a1 b1 c1 k) zs (by go_simp; done) (block_cells (heap_alloc_new w9 _)) AT.out FA.out RJ.out C3.out C4.out ?_; intro g' cap' w7 hp' hgrow' hor')
    have HP8 := hid (show Pend w W2 34 w7 g' (k + 1) cap' (gradTo a1 b1 c1 (k + 1)) from hp')
    clear hp' hgrow' hor' AT FA RJ HP
    go_wp2_with fail
    go_roundg g
    case measure => omega
    case rel => exact ⟨k + 1,g',cap',hk'.out,by go_num,rfl,HP8⟩
   ·rename_i hh
    clear hh
    obtain ⟨Wd,hWd⟩ : ∃ Wd,Wd = ((wr.alloc (.cells #[.bool y.x.num.neg, .slice K1 nK1 cK1, .slice K2 nK2 cK2, .bool y.y.num.neg, .slice K4 nK4 cK4, .slice K5 nK5 cK5] 34)).alloc (.cells #[.bool x.x.num.neg, .slice J1 nJ1 cJ1, .slice J2 nJ2 cJ2, .bool x.y.num.neg, .slice J4 nJ4 cJ4, .slice J5 nJ5 cJ5] 34)).drew := ⟨_,rfl⟩
    have HWd := hid (show Below wr.heap.size wr Wd by rw [hWd]; exact Below.drew (Below.next (Below.box _) (Below.box _)))
    have hz6 : wr.heap.size + 1 < Wd.heap.size := by rw [hWd]; show _ < ((wr.alloc _).alloc _).heap.size; simp <;> omega
    have hz7 : wr.heap.size < Wd.heap.size := by rw [hWd]; show _ < ((wr.alloc _).alloc _).heap.size; simp <;> omega
    have jd0 : Wd.cell? ⟨wr.heap.size + 1,0,none⟩ = some (.bool x.x.num.neg) := by rw [hWd]; go_simp
    have jd1 : Wd.cell? ⟨wr.heap.size + 1,1,none⟩ = some (.slice J1 nJ1 cJ1) := by rw [hWd]; go_simp
    have jd2 : Wd.cell? ⟨wr.heap.size + 1,2,none⟩ = some (.slice J2 nJ2 cJ2) := by rw [hWd]; go_simp
    have jd3 : Wd.cell? ⟨wr.heap.size + 1,3,none⟩ = some (.bool x.y.num.neg) := by rw [hWd]; go_simp
    have jd4 : Wd.cell? ⟨wr.heap.size + 1,4,none⟩ = some (.slice J4 nJ4 cJ4) := by rw [hWd]; go_simp
    have jd5 : Wd.cell? ⟨wr.heap.size + 1,5,none⟩ = some (.slice J5 nJ5 cJ5) := by rw [hWd]; go_simp
    have kd0 : Wd.cell? ⟨wr.heap.size,0,none⟩ = some (.bool y.x.num.neg) := by rw [hWd]; go_simp
    have kd1 : Wd.cell? ⟨wr.heap.size,1,none⟩ = some (.slice K1 nK1 cK1) := by rw [hWd]; go_simp
    have kd2 : Wd.cell? ⟨wr.heap.size,2,none⟩ = some (.slice K2 nK2 cK2) := by rw [hWd]; go_simp
    have kd3 : Wd.cell? ⟨wr.heap.size,3,none⟩ = some (.bool y.y.num.neg) := by rw [hWd]; go_simp
    have kd4 : Wd.cell? ⟨wr.heap.size,4,none⟩ = some (.slice K4 nK4 cK4) := by rw [hWd]; go_simp
    have kd5 : Wd.cell? ⟨wr.heap.size,5,none⟩ = some (.slice K5 nK5 cK5) := by rw [hWd]; go_simp
    rw [← hWd]
    have hgl : gd < Wd.heap.size := by have := HWd.out.size; omega
    have l0 : Wd.cell? ⟨gd,0,none⟩ = some (.bool (darea a1 b1 c1).num.neg) := (HWd.out.cell (p := ⟨gd,0,none⟩) hgr).trans m0
    have l1 : Wd.cell? ⟨gd,1,none⟩ = some (.slice V1 nV1 cV1) := (HWd.out.cell (p := ⟨gd,1,none⟩) hgr).trans m1
    have l2 : Wd.cell? ⟨gd,2,none⟩ = some (.slice V2 nV2 cV2) := (HWd.out.cell (p := ⟨gd,2,none⟩) hgr).trans m2
    clear hWd m0 m1 m2
    go_wp2_with fail
    refine wp_region_last (by simp) (by kernel_rfl) (by kernel_rfl) (by kernel_rfl) (by kernel_rfl) ?_
    dsimp only [List.dropLast,List.getLast,List.length]
    iterate 4
     apply walkM_eq
     case h =>
      intro yq zq wq hC hd
      obtain ⟨hcq,hfq⟩ := bcell hC
      simp at hd
      refine ⟨by go_simp; done, ?_⟩
      go_simp
      first | (go_ints; exact rfl) | (go_ints; rw [if_pos (by omega)]; try exact rfl) | exact rfl | (rw [if_pos (by omega)]; try exact rfl)
    refine walkM_call (MP.agg (rsub x.y y.y)) ?_ ?_
    ·intro yq zq wq hC hd
     obtain ⟨hcq,hfq⟩ := bcell hC
     simp at hd
     refine ⟨by go_simp; done, ?_⟩
     apply Exists.intro
     apply Exists.intro
     constructor
     ·go_simp
      exact ⟨rfl,rfl⟩
     ·exact gives_agg (impl_RatSub _ _ x.y y.y _ _ wq (XP2.out.below (Below.next HWd.out hC)) (YP2.out.below (Below.next HWd.out hC)))
    apply walkM_eq
    case h =>
     intro yq zq wq hC hd
     obtain ⟨hcq,hfq⟩ := bcell hC
     simp at hd
     refine ⟨by go_simp; done, ?_⟩
     go_simp
     first | (go_ints; exact rfl) | (go_ints; rw [if_pos (by omega)]; try exact rfl) | exact rfl | (rw [if_pos (by omega)]; try exact rfl)
    refine walkM_call (MP.agg (rdiv (rsub x.y y.y) (darea a1 b1 c1))) ?_ ?_
    ·intro yq zq wq hC hd
     obtain ⟨hcq,hfq⟩ := bcell hC
     simp at hd
     refine ⟨by go_simp; done, ?_⟩
     apply Exists.intro
     apply Exists.intro
     constructor
     ·go_simp
      exact ⟨rfl,rfl⟩
     ·obtain ⟨t1, _⟩ := hd
      exact gives_agg (impl_RatDiv _ _ (rsub x.y y.y) (darea a1 b1 c1) _ _ wq t1.1 (AGR.out.below (Below.next HWd.out hC)) O1.out HG.out.d HG.out.d0)
    iterate 4
     apply walkM_eq
     case h =>
      intro yq zq wq hC hd
      obtain ⟨hcq,hfq⟩ := bcell hC
      simp at hd
      refine ⟨by go_simp; done, ?_⟩
      go_simp
      first | (go_ints; exact rfl) | (go_ints; rw [if_pos (by omega)]; try exact rfl) | exact rfl | (rw [if_pos (by omega)]; try exact rfl)
    refine walkM_call (MP.agg (rsub y.x x.x)) ?_ ?_
    ·intro yq zq wq hC hd
     obtain ⟨hcq,hfq⟩ := bcell hC
     simp at hd
     refine ⟨by go_simp; done, ?_⟩
     apply Exists.intro
     apply Exists.intro
     constructor
     ·go_simp
      exact ⟨rfl,rfl⟩
     ·exact gives_agg (impl_RatSub _ _ y.x x.x _ _ wq (YP1.out.below (Below.next HWd.out hC)) (XP1.out.below (Below.next HWd.out hC)))
    apply walkM_eq
    case h =>
     intro yq zq wq hC hd
     obtain ⟨hcq,hfq⟩ := bcell hC
     simp at hd
     refine ⟨by go_simp; done, ?_⟩
     go_simp
     first | (go_ints; exact rfl) | (go_ints; rw [if_pos (by omega)]; try exact rfl) | exact rfl | (rw [if_pos (by omega)]; try exact rfl)
    refine walkM_call (MP.agg (rdiv (rsub y.x x.x) (darea a1 b1 c1))) ?_ ?_
    ·intro yq zq wq hC hd
     obtain ⟨hcq,hfq⟩ := bcell hC
     simp at hd
     refine ⟨by go_simp; done, ?_⟩
     apply Exists.intro
     apply Exists.intro
     constructor
     ·go_simp
      exact ⟨rfl,rfl⟩
     ·obtain ⟨t1, _⟩ := hd
      exact gives_agg (impl_RatDiv _ _ (rsub y.x x.x) (darea a1 b1 c1) _ _ wq t1.1 (AGR.out.below (Below.next HWd.out hC)) O2.out HG.out.d HG.out.d0)
    refine walkM_runD (fun y' => MP.eqS (.agg ((y' 6).cells ++ (y' 13).cells)) (gradP a1 b1 c1 k)) (by intro y y' h; simp [deps,depOf] at h; simp [h]) ?_ ?_
    ·intro yq zq wq hC hd
     simp at hd
     obtain ⟨⟨h6, _⟩,h13, _⟩ := hd
     obtain ⟨D1,nD1,cD1,d1,D2,nD2,cD2,d2,e6,z6, _, _⟩ := TRat.agg h6
     obtain ⟨D4,nD4,cD4,d4,D5,nD5,cD5,d5,e13,z13, _, _⟩ := TRat.agg h13
     rw [e6] at h6
     rw [e13] at h13
     have HJN := hid (show Agg wq (.agg #[.bool (rdiv (rsub x.y y.y) (darea a1 b1 c1)).num.neg, .slice D1 nD1 cD1, .slice D2 nD2 cD2, .bool (rdiv (rsub y.x x.x) (darea a1 b1 c1)).num.neg, .slice D4 nD4 cD4, .slice D5 nD5 cD5]) (gradP a1 b1 c1 k) (zq 6 ++ zq 13) by rw [EG.out]; exact pt_join (x := ⟨_, _⟩) h6 h13)
     clear h6 h13 z6 z13
     refine ⟨by go_simp; done, .agg #[.bool (rdiv (rsub x.y y.y) (darea a1 b1 c1)).num.neg, .slice D1 nD1 cD1, .slice D2 nD2 cD2, .bool (rdiv (rsub y.x x.x) (darea a1 b1 c1)).num.neg, .slice D4 nD4 cD4, .slice D5 nD5 cD5],wq, ?_,Below.refl _ _, [],⟨by rw [e6,e13]; rfl,rfl, _,HJN.out⟩,by simp⟩
     go_simp
    refine walkM_callD (fun y' => MP.eqS (y' 14) (gradP a1 b1 c1 k)) (by intro y y' h; simp [deps,depOf] at h; simp [h]) ?_ ?_
    ·intro yq zq wq hC hd
     obtain ⟨hcq,hfq⟩ := bcell hC
     simp at hd
     obtain ⟨⟨h14,h14z,s14,h14a⟩,h13, _⟩ := hd
     have HJN := hid h14a
     have C := impl_ifPoint (yq 14) (gradP a1 b1 c1 k) _ wq h14a ((ok_den OX.out).trans OX.out.symm) ((ok_den OY.out).trans OY.out.symm)
     rw [OG.out] at C
     have HCC := hid C
     clear h14 h14a h13 C
     refine ⟨by go_simp; done, ?_⟩
     apply Exists.intro
     apply Exists.intro
     constructor
     ·go_simp
      exact ⟨rfl,rfl⟩
     ·exact HCC.out.mono (fun e w' ⟨he,hb⟩ => ⟨yq 14,he,hb, [],⟨rfl,rfl, _,HJN.out.below hb⟩,by simp⟩)
    refine walkM_new #[.bool false, .slice none 0 0, .slice none 0 0, .bool false, .slice none 0 0, .slice none 0 0] 34 ?_ ?_
    ·intro yq zq wq hC hd
     refine ⟨by go_simp; done, ?_⟩
     go_simp
    intro yq zq wb hC hd hdis0
    have hdis := hid hdis0
    clear hdis0
    simp at hd
    have q6 := hd.2.2.2.2.2.2.1
    have q13 := hd.2.2.2.2.2.2.2.2.2.2.2.2.2.1
    have q14 := hd.2.2.2.2.2.2.2.2.2.2.2.2.2.2.1
    have q15 := hd.2.2.2.2.2.2.2.2.2.2.2.2.2.2.2.1
    have q16 := hd.2.2.2.2.2.2.2.2.2.2.2.2.2.2.2.2
    obtain ⟨⟨ha6,hf6⟩,hr6⟩ := q6
    obtain ⟨⟨ha13,hf13⟩,hr13⟩ := q13
    obtain ⟨⟨e14,z14, _⟩, _⟩ := q14
    obtain ⟨⟨e15,z15, _⟩, _⟩ := q15
    obtain ⟨⟨g8,e16,z16,hg8⟩,hr16⟩ := q16
    obtain ⟨D1,nD1,cD1,d1,D2,nD2,cD2,d2,e6,z6, _, _⟩ := TRat.agg ha6
    obtain ⟨D4,nD4,cD4,d4,D5,nD5,cD5,d5,e13,z13, _, _⟩ := TRat.agg ha13
    rw [e6] at ha6
    rw [e13] at ha13
    have ee : yq 15 = .agg #[.bool (rdiv (rsub x.y y.y) (darea a1 b1 c1)).num.neg, .slice D1 nD1 cD1, .slice D2 nD2 cD2, .bool (rdiv (rsub y.x x.x) (darea a1 b1 c1)).num.neg, .slice D4 nD4 cD4, .slice D5 nD5 cD5] := by rw [e15,e14,e6,e13]; rfl
    have hn6 : g8 ∉ zq 6 := fun h => (hdis.out 6 16 (by decide) (by decide) (by decide)) g8 h (by rw [z16]; simp)
    have hn13 : g8 ∉ zq 13 := fun h => (hdis.out 13 16 (by decide) (by decide) (by decide)) g8 h (by rw [z16]; simp)
    have hfj := Free.join hf6 hf13 (hdis.out 6 13 (by decide) (by decide) (by decide))
    have hpj : Agg wb (.agg #[.bool (rdiv (rsub x.y y.y) (darea a1 b1 c1)).num.neg, .slice D1 nD1 cD1, .slice D2 nD2 cD2, .bool (rdiv (rsub y.x x.x) (darea a1 b1 c1)).num.neg, .slice D4 nD4 cD4, .slice D5 nD5 cD5]) (gradP a1 b1 c1 k) (zq 6 ++ zq 13) := by rw [EG.out]; exact pt_join (x := ⟨_, _⟩) ha6 ha13
    have hrj : ∀ b ∈ zq 6 ++ zq 13,wr.heap.size ≤ b := fun b hb => by
     have := HWd.out.size
     rcases List.mem_append.1 hb with h | h
     ·have := (hr6 b h).1; omega
     ·have := (hr13 b h).1; omega
    have hnj : g8 ∉ zq 6 ++ zq 13 := fun h => (List.mem_append.1 h).elim hn6 hn13
    have hg8w : wr.heap.size ≤ g8 := by have := (hr16 g8 (by rw [z16]; simp)).1; have := HWd.out.size; omega
    have hg8l := lt_of_get hg8
    obtain ⟨d0,f0⟩ := box_cell hg8 (j := 0) rfl
    obtain ⟨d1,f1⟩ := box_cell hg8 (j := 1) rfl
    obtain ⟨d2,f2⟩ := box_cell hg8 (j := 2) rfl
    obtain ⟨d3,f3⟩ := box_cell hg8 (j := 3) rfl
    obtain ⟨d4,f4⟩ := box_cell hg8 (j := 4) rfl
    obtain ⟨d5,f5⟩ := box_cell hg8 (j := 5) rfl
    obtain ⟨W8,hW8⟩ : ∃ W8,W8 = ((((((wb.setCell ⟨g8,0,none⟩ (.bool (rdiv (rsub x.y y.y) (darea a1 b1 c1)).num.neg)).setCell ⟨g8,1,none⟩ (.slice D1 nD1 cD1)).setCell ⟨g8,2,none⟩ (.slice D2 nD2 cD2)).setCell ⟨g8,3,none⟩ (.bool (rdiv (rsub y.x x.x) (darea a1 b1 c1)).num.neg)).setCell ⟨g8,4,none⟩ (.slice D4 nD4 cD4)).setCell ⟨g8,5,none⟩ (.slice D5 nD5 cD5)) := ⟨_,rfl⟩
    have hkeep : ∀ b,b ≠ g8 → W8.heap[b]? = wb.heap[b]? := fun b hb => by rw [hW8]; exact heap_setCells g8 [.bool (rdiv (rsub x.y y.y) (darea a1 b1 c1)).num.neg, .slice D1 nD1 cD1, .slice D2 nD2 cD2, .bool (rdiv (rsub y.x x.x) (darea a1 b1 c1)).num.neg, .slice D4 nD4 cD4, .slice D5 nD5 cD5] wb 0 b hb
    have HB8 := hid (show Below wr.heap.size wr W8 by rw [hW8]; exact Below.trans (Below.next HWd.out hC) ((((((Below.refl wr.heap.size wb).setCell (p := ⟨g8,0,none⟩) hg8w _).setCell (p := ⟨g8,1,none⟩) hg8w _).setCell (p := ⟨g8,2,none⟩) hg8w _).setCell (p := ⟨g8,3,none⟩) hg8w _).setCell (p := ⟨g8,4,none⟩) hg8w _ |>.setCell (p := ⟨g8,5,none⟩) hg8w _))
    have PJ := hid (hpj.keep (fun b hb => hkeep b (fun e => hnj (e ▸ hb))))
    have FJ := hid (show Free W8 (zq 6 ++ zq 13) from ⟨hfj.1,fun b hb => by obtain ⟨cs,t,e⟩ := hfj.2 b hb; exact ⟨cs,t,(hkeep b (fun e' => hnj (e' ▸ hb))).trans e⟩⟩)
    have RJ := hid hrj
    have hsz8 : g8 < W8.heap.size := by rw [hW8]; simp [World.setCell]; exact hg8l
    have k0 : W8.cell? ⟨g8,0,none⟩ = some (.bool (rdiv (rsub x.y y.y) (darea a1 b1 c1)).num.neg) := by rw [hW8]; go_simp
    have k1 : W8.cell? ⟨g8,1,none⟩ = some (.slice D1 nD1 cD1) := by rw [hW8]; go_simp
    have k2 : W8.cell? ⟨g8,2,none⟩ = some (.slice D2 nD2 cD2) := by rw [hW8]; go_simp
    have k3 : W8.cell? ⟨g8,3,none⟩ = some (.bool (rdiv (rsub y.x x.x) (darea a1 b1 c1)).num.neg) := by rw [hW8]; go_simp
    have k4 : W8.cell? ⟨g8,4,none⟩ = some (.slice D4 nD4 cD4) := by rw [hW8]; go_simp
    have k5 : W8.cell? ⟨g8,5,none⟩ = some (.slice D5 nD5 cD5) := by rw [hW8]; go_simp
    have HW8 := hid hW8
    generalize zq 6 ++ zq 13 = zs at *
    clear hd hdis ha6 hf6 hr6 ha13 hf13 hr13 e14 e15 z14 z15 z16 hr16 hn6 hn13 hfj hpj hrj hnj hkeep hC hW8 hg8 z6 z13
    go_wp2_with fail
    rw [← HW8.out]
    obtain ⟨xb,xg, _⟩ := ptX PJ.out
    have C := impl_isRat _ (gradP a1 b1 c1 k).x _ W8 xg
    rw [ok_den OX.out] at C
    refine C.mono ?_
    clear C xg
    rintro _ w9 ⟨rfl,hb9⟩
    obtain ⟨hc_w9,hf_w9⟩ := bcell hb9
    have hsz9 : g8 < w9.heap.size := by have := hb9.size; omega
    have HB9 := hid (Below.next HB8.out hb9)
    have SIX := hid (show Below W8.heap.size W8 (w9.alloc (.cells #[.bool (rdiv (rsub x.y y.y) (darea a1 b1 c1)).num.neg, .slice D1 nD1 cD1, .slice D2 nD2 cD2, .bool (rdiv (rsub y.x x.x) (darea a1 b1 c1)).num.neg, .slice D4 nD4 cD4, .slice D5 nD5 cD5] 34)) from Below.next hb9 (Below.box _))
    have AT := hid (ptDat (PJ.out.below SIX.out))
    have FA := hid (FJ.out.below SIX.out)
    have C3 := hid (show k + 1 ≤ maxLen by unfold maxLen; omega)
    have C4 := hid (show (k + 1) * 112 ≤ 140737488355328 by omega)
    clear hb9 PJ FJ SIX
    go_wp2_with (at_builtin; refine wpList_pend rfl _ _ 23 rfl 34 i0 (.agg #[.bool false, .slice none 0 0, .slice none 0 0, .bool false, .slice none 0 0, .slice none 0 0]) 112 Tryz.underlying23 hi hz0 hz1 hz2 rfl HP.out (Below.next HB9.out (Below.box _)) (by go_simp; done) ⟨w9.heap.size,0,none⟩ 1 [.bool (rdiv (rsub x.y y.y) (darea a1 b1 c1)).num.neg, .slice D1 nD1 cD1, .slice D2 nD2 cD2, .bool (rdiv (rsub y.x x.x) (darea a1 b1 c1)).num.neg, .slice D4 nD4 cD4, .slice D5 nD5 cD5] (gradP a1 b1 c1 k) zs (by go_simp; done) (block_cells (heap_alloc_new w9 _)) AT.out FA.out RJ.out C3.out C4.out ?_; intro g' cap' w7 hp' hgrow' hor')
    have HP8 := hid (show Pend w W2 34 w7 g' (k + 1) cap' (gradTo a1 b1 c1 (k + 1)) from hp')
    clear hp' hgrow' hor' AT FA RJ HP
    go_wp2_with fail
    go_roundg g
    case measure => omega
    case rel => exact ⟨k + 1,g',cap',hk'.out,by go_num,rfl,HP8⟩
  ·obtain rfl : k = 3 := by omega
   clear hk hk3
   go_wp2
   go_ret
   exact HP.out.done
end Go.Proofs.YtpfipnankjeokaaGreat.X
namespace Go.Proofs.YtpfipnankjeokaaGreat.X
open Go.RowKit Go.XB Go.XN
def onEdge (e : TEdge) : Bool := decide (e.left < 0) || decide (e.right < 0)
def onTo (n : Nat) (es : List TEdge) : Nat → List Bool
 | 0 => List.replicate n false
 | k + 1 => if onEdge (es.getD k edge0) then ((onTo n es k).set (es.getD k edge0).a.toNat true).set (es.getD k edge0).b.toNat true else onTo n es k
theorem onTo_len (n : Nat) (es : List TEdge) : ∀ k,(onTo n es k).length = n
 | 0 => by simp [onTo]
 | k + 1 => by rw [onTo]; split <;> simp [onTo_len n es k]
def pickTo (fs : List Bool) (bd : Bool) : Nat → List Int
 | 0 => []
 | k + 1 => if fs.getD k false = bd then pickTo fs bd k ++ [(k : Int)] else pickTo fs bd k
def ptsOfL (m : TMesh) (bd : Bool) : List Int := pickTo (onTo m.points.length (edgesL m.triangles) (edgesL m.triangles).length) bd m.points.length
theorem pickTo_len (fs : List Bool) (bd : Bool) : ∀ k,(pickTo fs bd k).length ≤ k
 | 0 => Nat.le_refl _
 | k + 1 => by rw [pickTo]; have := pickTo_len fs bd k; split <;> simp <;> omega
def EdgeIn (m : TMesh) : Prop := ∀ e ∈ edgesL m.triangles,(0 ≤ e.a ∧ e.a < m.points.length) ∧ (0 ≤ e.b ∧ e.b < m.points.length)
attribute [local go_sem] fillBy opAt deps depOf Region.wanted yielded
attribute [local simp] deps depOf MP.eq MP.agg MP.sl MP.slbox Facts
set_option maxHeartbeats 16000000 in
set_option maxRecDepth 10000 in
theorem impl_pointsOf (v : Value) (m : TMesh) (b : List Nat) (bd : Bool) (w : World) (hx : Agg w v m b) (h40 : m.points.length ≤ 40) (h48 : m.triangles.length ≤ 48) (hes : EdgeIn m) :
  Calls Tryz.prog 144 #[v, .bool bd] w (GivesSl w (ptsOfL m bd)) := by
 have HX := hid hx; have H48 := hid h48
 obtain ⟨A0,n0,c0,s0,A1,n1,c1,s1,rfl,rfl,hs0,hs1⟩ := TMesh.agg hx
 have HL0 := hid hs0.1
 have hn40 : n0 ≤ 40 := by rw [← hs0.1]; exact h40
 have hn0i : (n0 : Int) ≤ 40 := by omega
 have HIN := hid (show ∀ e ∈ edgesL m.triangles,(0 ≤ e.a ∧ e.a < n0) ∧ (0 ≤ e.b ∧ e.b < n0) by rw [← hs0.1]; exact hes)
 have hnfa : (edgesL m.triangles).length ≤ 144 := by unfold edgesL; have := edgesTo_len m.triangles m.triangles.length; omega
 obtain ⟨i0,hi,hz0,hz1,hz2⟩ := info_parts infoBl
 obtain ⟨i1,gi,gz0,gz1,gz2⟩ := info_parts infoI
 have b2 := hid (show i0.bytes * n0 ≤ 281474976710656 by rw [hz2]; omega)
 have b3 := hid (show n0 ≤ maxLen by unfold maxLen; omega)
 obtain ⟨es,hes'⟩ : ∃ es,edgesL m.triangles = es := ⟨_,rfl⟩
 have HES := hid hes'
 rw [hes'] at HIN hnfa
 have EP := hid (show ptsOfL m bd = pickTo (onTo n0 es es.length) bd n0 by unfold ptsOfL; rw [hes',HL0.out])
 clear hs0 hs1 hx h40 h48 hes hes'
 go_enter Tryz.func144,Tryz.ntmps144
 go_upto_region 1 with fail
 have hsW : w.heap.size ≤ (w.alloc (.cells #[.slice A0 n0 c0, .slice A1 n1 c1] 26)).heap.size := by simp
 go_upto_region 2 with (at_make; (refine wpList_make_full _ rfl _ _ 113 rfl w.heap.size 4 i0 (.bool false) 1 Tryz.underlying113 hi hz0 hz1 .i64 .i64 _ _ n0 rfl rfl rfl rfl b2.out b3.out hsW ?_); intro w1 hown1 hgrow1)
 rw [bools_row] at hown1
 rw [World.size_alloc] at hown1
 have hb1 := (Below.refl (w.heap.size + 1) (w.alloc (.cells #[.slice A0 n0 c0, .slice A1 n1 c1] 26))).grown hgrow1 (by simp) (by intro k hk; cases hk)
 have BR1 := hid (show BRow w1 w.heap.size (w.heap.size + 1) n0 (onTo n0 es 0) from hown1)
 have HB1 := hid (show Below w.heap.size w w1 from (Below.box _).trans (hb1.mono (by omega)))
 have k0 : w1.cell? ⟨w.heap.size,0,none⟩ = some (.slice A0 n0 c0) := (hb1.cell (p := ⟨w.heap.size,0,none⟩) (Nat.lt_succ_self _)).trans (by go_simp)
 have k1 : w1.cell? ⟨w.heap.size,1,none⟩ = some (.slice A1 n1 c1) := (hb1.cell (p := ⟨w.heap.size,1,none⟩) (Nat.lt_succ_self _)).trans (by go_simp)
 have hw1 : w.heap.size + 1 < w1.heap.size := BR1.out.lt
 have hw10 : w.heap.size < w1.heap.size := by omega
 clear hown1 hgrow1 hb1
 go_wp2_with fail
 refine (impl_edges _ m _ w1 (HX.out.below HB1.out) H48.out).mono ?_
 rintro _ w2 ⟨E,nf,cE,eb,rfl,hse,hoe,hb2⟩
 rw [HES.out] at hse
 have HSE := hid hse
 have HNF := hid hse.1
 have hnf : nf ≤ 144 := by rw [← hse.1]; exact hnfa
 have hnfi : (nf : Int) ≤ 144 := by omega
 have HEB := hid (show w.heap.size + 1 ∉ eb from fun h => by have := (hoe.2 _ h).1; omega)
 have HB2 := hid (Below.next HB1.out hb2)
 have BR2 := hid (BR1.out.below hb2)
 clear hse hoe hb2 k0 k1
 go_wp2_with fail
 go_loopg [18] nf (fun g s wr => ∃ k : Nat,k + g = nf ∧ s = .int .i64 k ∧ Hid (BRow wr w.heap.size (w.heap.size + 1) n0 (onTo n0 es k)) ∧ Hid (Sl wr E nf cE es eb) ∧ Below w.heap.size w wr)
 case atStart => exact ⟨0,by omega,rfl,BR2.out,HSE.out,HB2.out⟩
 case round =>
  clear BR2 HSE
  obtain ⟨k,hk,rfl,hbr,HSE,hb⟩ := hrel
  have HB := hid hb
  have hlt := hbr.out.lt
  rcases Nat.lt_or_ge k nf with hkn | hkn
  ·have hki : (k : Int) < nf := by omega
   have hki0 : (0 : Int) ≤ k := by omega
   obtain ⟨g,rfl⟩ : ∃ g,gk = g + 1 := ⟨gk - 1,by omega⟩
   have hk' := hid (show k + 1 + g = nf by omega)
   have hk1 : k + 1 ≤ nf := hkn
   obtain ⟨be,oe,x,rfl,hbl,hx1,e0,e1,e2,e3,hag⟩ := TEdge.elemA HSE.out hkn
   obtain ⟨⟨ha0,ha1⟩,⟨hb0,hb1⟩⟩ := HIN.out x (List.mem_of_getElem? hx1)
   have EX := hid (show es.getD k edge0 = x from getD_of hx1)
   clear hk hkn hx1 hag hb
   by_cases hon : onEdge x = true
   ·have NX := hid (show onTo n0 es (k + 1) = ((onTo n0 es k).set x.a.toNat true).set x.b.toNat true by rw [onTo,EX.out,if_pos hon])
    obtain ⟨uc,uf⟩ := hbr.out.cell (j := x.a.toNat) (f := (onTo n0 es k).getD x.a.toNat false) (by
     rw [List.getD_eq_getElem?_getD,List.getElem?_eq_getElem (by rw [onTo_len]; omega)]; rfl)
    obtain ⟨uc2,uf2⟩ := (hbr.out.set x.a.toNat true).cell (j := x.b.toNat) (f := ((onTo n0 es k).set x.a.toNat true).getD x.b.toNat false) (by
     rw [List.getD_eq_getElem?_getD,List.getElem?_eq_getElem (by simp [onTo_len]; omega)]; rfl)
    have hsz := HB.out.size
    have hne1 : wr.heap.size ≠ w.heap.size + 1 := by omega
    have hne2 : w.heap.size + 1 ≠ wr.heap.size := by omega
    have BRn := hid (show BRow ((wr.setCell ⟨w.heap.size + 1,x.a.toNat,none⟩ (.bool true)).setCell ⟨w.heap.size + 1,x.b.toNat,none⟩ (.bool true)) w.heap.size (w.heap.size + 1) n0 (onTo n0 es (k + 1)) by rw [NX.out]; exact (hbr.out.set _ _).set _ _)
    have SEn := hid (HSE.out.keep (w' := (wr.setCell ⟨w.heap.size + 1,x.a.toNat,none⟩ (.bool true)).setCell ⟨w.heap.size + 1,x.b.toNat,none⟩ (.bool true)) (fun b hb => by
     have hbn : b ≠ w.heap.size + 1 := fun e => HEB.out (e ▸ hb)
     exact (Below.heap_setCell _ _ _ b (by simpa using hbn)).trans (Below.heap_setCell _ _ _ b (by simpa using hbn))))
    have HBn := hid (show Below w.heap.size w ((wr.setCell ⟨w.heap.size + 1,x.a.toNat,none⟩ (.bool true)).setCell ⟨w.heap.size + 1,x.b.toNat,none⟩ (.bool true)) from (HB.out.setCell (p := ⟨w.heap.size + 1,x.a.toNat,none⟩) (Nat.le_succ _) _).setCell (p := ⟨w.heap.size + 1,x.b.toNat,none⟩) (Nat.le_succ _) _)
    clear hbr
    rcases Int.lt_or_le x.left 0 with hL | hL
    ·clear HSE
     go_wp2_with fail
     go_region_held3 (fun w' => w'.cell? ⟨wr.heap.size,0,none⟩ = some (.int .i64 x.a) ∧ w'.cell? ⟨wr.heap.size,1,none⟩ = some (.int .i64 x.b)) (constructor <;> (go_simp; done)) (fail)
     all_goals go_wp2_with fail
     go_roundg g
     case measure => omega
     case rel => exact ⟨k + 1,hk'.out,by go_num,BRn.out.below (Below.drew (Below.box _)),SEn.out.below (Below.drew (Below.box _)),Below.next HBn.out (Below.drew (Below.box _))⟩
    ·have hR : x.right < 0 := by
      unfold onEdge at hon; simp at hon; omega
     have hL' : ¬ (x.left < 0) := by omega
     clear HSE
     go_wp2_with fail
     go_region_held3 (fun w' => w'.cell? ⟨wr.heap.size,0,none⟩ = some (.int .i64 x.a) ∧ w'.cell? ⟨wr.heap.size,1,none⟩ = some (.int .i64 x.b)) (constructor <;> (go_simp; done)) (fail)
     all_goals go_wp2_with fail
     go_roundg g
     case measure => omega
     case rel => exact ⟨k + 1,hk'.out,by go_num,BRn.out.below (Below.drew (Below.box _)),SEn.out.below (Below.drew (Below.box _)),Below.next HBn.out (Below.drew (Below.box _))⟩
   ·have NX := hid (show onTo n0 es (k + 1) = onTo n0 es k by rw [onTo,EX.out,if_neg hon])
    have hL : ¬ (x.left < 0) := by intro h; apply hon; unfold onEdge; simp [h]
    have hR : ¬ (x.right < 0) := by intro h; apply hon; unfold onEdge; simp [h]
    clear hon
    go_wp2_with fail
    go_roundg g
    case measure => omega
    case rel => exact ⟨k + 1,hk'.out,by go_num,(show BRow _ w.heap.size (w.heap.size + 1) n0 (onTo n0 es (k + 1)) by rw [NX.out]; exact hbr.out.below (Below.box _)),HSE.out.below (Below.box _),Below.next HB.out (Below.box _)⟩
  ·obtain rfl : k = nf := by omega
   have hii : ¬ ((k : Int) < k) := by omega
   rw [← HNF.out] at hbr
   have HBR := hid hbr.out
   generalize hfs : onTo n0 es es.length = fs at *
   have HFS := hid hfs
   have hfl : fs.length = n0 := by rw [← hfs,onTo_len]
   clear hk hkn HSE hbr hfs
   go_wp2_with fail
   have P0 := hid (Pend.start (α := Int) (e := 3) HB.out)
   have HBR := HBR
   go_loopg [8,42] n0 (fun g s8 s w4 => ∃ (i gB cap : Nat),i + g = n0 ∧ s = .int .i64 i ∧ s8 = .slice (some ⟨gB,0,none⟩) (pickTo fs bd i).length cap ∧ Hid (Pend w wr 3 w4 gB (pickTo fs bd i).length cap (pickTo fs bd i)))
   case atStart => exact ⟨0,wr.heap.size,0,by omega,rfl,rfl,P0.out⟩
   case round =>
    clear P0
    obtain ⟨i,gB,cap,hi3,rfl,rfl,HP⟩ := hrel
    have HBx := hid HP.out.bb
    have hsx := HBx.out.size
    rename World => w4
    have BR4 := hid (HBR.out.below HBx.out)
    rcases Nat.lt_or_ge i n0 with hin | hin
    ·have hii : (i : Int) < n0 := by omega
     have hi0 : (0 : Int) ≤ i := by omega
     obtain ⟨g,rfl⟩ : ∃ g,gk = g + 1 := ⟨gk - 1,by omega⟩
     have hi' := hid (show i + 1 + g = n0 by omega)
     have hi1 : i + 1 ≤ n0 := hin
     have hpl := pickTo_len fs bd i
     have C3 := hid (show (pickTo fs bd i).length + 1 ≤ maxLen by unfold maxLen; omega)
     have C4 := hid (show ((pickTo fs bd i).length + 1) * 8 ≤ 140737488355328 by omega)
     obtain ⟨f,hf⟩ : ∃ f,fs[i]? = some f := ⟨_,List.getElem?_eq_getElem (by omega)⟩
     have hcell := (BR4.out.cell hf).1
     have hlt4 := BR4.out.lt
     have FI := hid (getD_of (d := false) hf)
     clear hi3 hin hf
     by_cases hfb : f = bd
     ·have NX := hid (show pickTo fs bd (i + 1) = pickTo fs bd i ++ [(i : Int)] by rw [pickTo,FI.out,if_pos hfb])
      have NL := hid (show (pickTo fs bd (i + 1)).length = (pickTo fs bd i).length + 1 by rw [NX.out]; simp)
      subst hfb
      have hff : (f == f) = true := by simp
      have AT := hid (show Dat.at_ (α := Int) (w4.alloc (.cells #[.int .i64 i] 3)) [.int .i64 i] (i : Int) [] from ⟨rfl,rfl,by constructor <;> omega⟩)
      go_wp2_with (at_builtin; refine wpList_pend rfl _ _ 28 rfl 3 i1 (.int .i64 0) 8 Tryz.underlying28 gi gz0 gz1 gz2 rfl HP.out (Below.box _) (by go_simp; done) ⟨w4.heap.size,0,none⟩ 1 [.int .i64 i] (i : Int) [] (by go_simp; done) (block_cells (heap_alloc_new w4 _)) AT.out ⟨List.nodup_nil,fun b hb => by simp at hb⟩ (fun b hb => by simp at hb) C3.out C4.out ?_; intro g' cap' w8 hp' hgrow' hor')
      have HP8 := hid (show Pend w wr 3 w8 g' (pickTo fs f (i + 1)).length cap' (pickTo fs f (i + 1)) by rw [NL.out,NX.out]; exact hp')
      clear hp' hgrow' hor' HP
      go_wp2_with fail
      go_roundg g
      case measure => omega
      case rel => exact ⟨i + 1,g',cap',hi'.out,by go_num,by rw [NL.out],HP8⟩
     ·have NX := hid (show pickTo fs bd (i + 1) = pickTo fs bd i by rw [pickTo,FI.out,if_neg hfb])
      have hff : (f == bd) = false := by simp [hfb]
      go_wp2_with fail
      go_roundg g
      case measure => omega
      case rel => exact ⟨i + 1,gB,cap,hi'.out,by go_num,by rw [NX.out],by rw [NX.out]; exact HP⟩
    ·obtain rfl : i = n0 := by omega
     have hii : ¬ ((i : Int) < i) := by omega
     clear hi3 hin
     go_wp2
     go_ret
     rw [EP.out]
     exact HP.out.done
end Go.Proofs.YtpfipnankjeokaaGreat.X
