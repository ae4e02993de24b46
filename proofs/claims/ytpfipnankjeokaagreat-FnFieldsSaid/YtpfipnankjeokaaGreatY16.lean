/- Part of a claim's proof: texts of this repository's wip,joined by prune.py,without the theorems that the claim does not reach. -/
import Derived.Test.YtpfipnankjeokaaGreatY15
import Derived.Deep.RegionWith
/- l05Point,MakePoint of the reference: a point with small coordinates. -/
namespace Go.Proofs.YtpfipnankjeokaaGreat.X
open Go.RowKit Go.XB Go.XN
def ptD (x y : Int) (q : Int) : TPoint := ⟨if q = 0 then rint x else radd (rint x) (mkR 1 q),rint y⟩
theorem ptD_zero (x y : Int) : ptD x y 0 = ptI x y := by unfold ptD ptI; rw [if_pos rfl]
theorem ptD_pos (x y q : Int) (h : q ≠ 0) : ptD x y q = ⟨radd (rint x) (mkR 1 q),rint y⟩ := by unfold ptD; rw [if_neg h]
def inD (x y q : Int) : Prop := (-4 ≤ x ∧ x ≤ 4) ∧ (-4 ≤ y ∧ y ≤ 4) ∧ (q = 0 ∨ (2 ≤ q ∧ q ≤ 4))
attribute [local go_sem] fillBy opAt deps depOf Region.wanted yielded
attribute [local simp] deps depOf MP.eq MP.agg MP.sl Facts
set_option linter.constructorNameAsVariable false
def GivesPt (w : World) (g : Nat) (e : Ending) (w' : World) : Prop := ∃ (x y q : Int) (v : Value) (s : List Nat),e = .returned v ∧ inD x y q ∧ Agg w' v (ptD x y q) s ∧ w.grownBy w' (some g) ∧ ∀ b ∈ s,w.heap.size ≤ b
theorem grown_next {w w1 w2 : World} {r : Option Nat} (h : w.grownBy w1 r) (h2 : w1.grownBy w2 r) : w.grownBy w2 r :=
 ⟨h2.os.trans h.os,h2.tape.trans h.tape,h2.output.trans h.output,Nat.le_trans h.size h2.size,fun k hk hne => (h2.block k (Nat.lt_of_lt_of_le hk h.size) hne).trans (h.block k hk hne)⟩
theorem grown_below {w w1 w2 : World} {r : Option Nat} (h : w.grownBy w1 r) (h2 : Below w1.heap.size w1 w2) : w.grownBy w2 r := grown_next h (grown_below0 h2 r)
theorem grown_after {w w4 w' : World} {o : Obj} {g : Nat} (h : (w.alloc o).grownBy w4 (some g)) (hb : Below w.heap.size w4 w') : w.grownBy w' (some g) :=
 ⟨hb.os.trans h.os,hb.tape.trans h.tape,hb.output.trans h.output,by have := h.size; have := hb.size; simp at *; omega,fun k hk2 hne => (hb.block k hk2).trans ((h.block k (by simp; omega) hne).trans (Below.heap_alloc _ _ _ hk2))⟩
theorem below_set6 (w : World) {g b : Nat} (h : b ≤ g) (v0 v1 v2 v3 v4 v5 : Value) : Below b w ((((((w.setCell ⟨g,0,none⟩ v0).setCell ⟨g,1,none⟩ v1).setCell ⟨g,2,none⟩ v2).setCell ⟨g,3,none⟩ v3).setCell ⟨g,4,none⟩ v4).setCell ⟨g,5,none⟩ v5) :=
 ((((((Below.refl b w).setCell (p := ⟨g,0,none⟩) h _).setCell (p := ⟨g,1,none⟩) h _).setCell (p := ⟨g,2,none⟩) h _).setCell (p := ⟨g,3,none⟩) h _).setCell (p := ⟨g,4,none⟩) h _).setCell (p := ⟨g,5,none⟩) h _
theorem below_set3 (w : World) {g b : Nat} (h : b ≤ g) (v0 v1 v2 : Value) : Below b w (((w.setCell ⟨g,0,none⟩ v0).setCell ⟨g,1,none⟩ v1).setCell ⟨g,2,none⟩ v2) :=
 (((Below.refl b w).setCell (p := ⟨g,0,none⟩) h _).setCell (p := ⟨g,1,none⟩) h _).setCell (p := ⟨g,2,none⟩) h _
theorem heap_keepD {w w' : World} {b : Nat} {o : Obj} (h : w.heap[b]? = some o) (hb : Below w.heap.size w w') : w'.heap[b]? = some o := (hb.block b (lt_of_get h)).trans h
theorem below_drew (w : World) : Below w.heap.size w w.drew := ⟨rfl,rfl,rfl,Nat.le_refl _,fun _ _ => rfl⟩

set_option maxHeartbeats 8000000 in
set_option maxRecDepth 10000 in
theorem spec_l05Point (g : Nat) (A : Option Addr) (n c : Nat) (xs : List TByte) (bs : List Nat) (w : World) (hx : Sl w A n c xs bs) (hn : n ≤ 1048576) (hc : Cur w g A n c) (hg : g ∉ bs) :
  Calls Tryz.prog 28 #[.pointer (some ⟨g,0,none⟩)] w (GivesPt w g) := by
 have HX := hid hx; have HC := hid hc; have HG := hid hg
 have hgl : g < w.heap.size := hc.lt'
 have HN := hid hn
 clear hx hc hg hn
 go_enter Tryz.func28,Tryz.ntmps28
 go_wp2_with fail
 have HB0 := hid (Below.box (w := w) (.cells #[.bool false, .slice none 0 0, .slice none 0 0, .bool false, .slice none 0 0, .slice none 0 0] 34))
 refine (spec_l01Below 9 (by decide) (by decide) g A n c xs bs _ (HX.out.below HB0.out) HN.out (HC.out.below' HB0.out) HG.out).mono ?_
 rintro _ w1 ⟨x,rfl,hx1,hc1,hg1⟩
 have HC1 := hid hc1; have HG1 := hid hg1
 have HX1 := hid ((HX.out.below HB0.out).keep (fun b hb => hg1.block b ((HX.out.below HB0.out).lt b hb) (by intro e; injection e with e; exact HG.out (e ▸ hb))))
 clear hc1 hg1
 go_wp2_with fail
 refine (spec_l01Below 9 (by decide) (by decide) g A n c xs bs w1 HX1.out HN.out HC1.out HG.out).mono ?_
 rintro _ w2 ⟨y,rfl,hy1,hc2,hg2⟩
 have HC2 := hid hc2
 have HX2 := hid (HX1.out.keep (fun b hb => hg2.block b (HX1.out.lt b hb) (by intro e; injection e with e; exact HG.out (e ▸ hb))))
 have HG2 := hid (grown_next HG1.out hg2)
 clear hc2 hg2
 go_wp2_with fail
 refine (spec_PointAt (x - 4) (y - 4) w2 (by constructor <;> omega) (by constructor <;> omega)).mono ?_
 rintro _ w3 ⟨v3,s3,rfl,ha3,ho3,hb3⟩
 obtain ⟨D1,nD1,cD1,d1,D2,nD2,cD2,d2,D4,nD4,cD4,d4,D5,nD5,cD5,d5,rfl,z3,k1,k2,k4,k5⟩ := TPoint.agg ha3
 have HA3 := hid ha3
 have HS3 := hid (show ∀ b ∈ s3,w.heap.size + 1 ≤ b ∧ b < w3.heap.size from fun b hb => ⟨by have := (ho3.2 b hb).1; have := HG2.out.size; simp at this; omega,ha3.lt b hb⟩)
 have HC3 := hid (HC2.out.below' hb3)
 have HX3 := hid (HX2.out.below hb3)
 have HG3 := hid (grown_below HG2.out hb3)
 have hw3 : w.heap.size + 1 ≤ w3.heap.size := by have := HG3.out.size; simp at this; omega
 clear ha3 ho3 hb3 z3 k1 k2 k4 k5
 go_wp2_with fail
 have HBx := hid (Below.box (w := w3) (.cells #[.bool (ptI (x - 4) (y - 4)).x.num.neg, .slice D1 nD1 cD1, .slice D2 nD2 cD2, .bool (ptI (x - 4) (y - 4)).y.num.neg, .slice D4 nD4 cD4, .slice D5 nD5 cD5] 34))
 refine (spec_l01Once 3 (by decide) (by decide) g A n c xs bs (w3.alloc (.cells #[.bool (ptI (x - 4) (y - 4)).x.num.neg, .slice D1 nD1 cD1, .slice D2 nD2 cD2, .bool (ptI (x - 4) (y - 4)).y.num.neg, .slice D4 nD4 cD4, .slice D5 nD5 cD5] 34)) (HX3.out.below HBx.out) HN.out (HC3.out.below' HBx.out) HG.out).mono ?_
 rintro _ w4 ⟨b,rfl,hc4,hg4⟩
 have HC4 := hid hc4
 have hs4 := hg4.size
 simp at hs4
 have HX4 := hid ((HX3.out.below HBx.out).keep (fun b hb => hg4.block b ((HX3.out.below HBx.out).lt b hb) (by intro e; injection e with e; exact HG.out (e ▸ hb))))
 have HA4 := hid ((HA3.out.below HBx.out).keep (fun b hb => hg4.block b (by have := (HS3.out b hb).2; simp; omega) (by intro e; injection e with e; have := (HS3.out b hb).1; omega)))
 have HP4 := hid (show w4.heap[w3.heap.size]? = some (.cells #[.bool (ptI (x - 4) (y - 4)).x.num.neg, .slice D1 nD1 cD1, .slice D2 nD2 cD2, .bool (ptI (x - 4) (y - 4)).y.num.neg, .slice D4 nD4 cD4, .slice D5 nD5 cD5] 34) from (hg4.block _ (by simp) (by intro e; injection e with e; omega)).trans (heap_alloc_new w3 _))
 have HG4 := hid (grown_next (grown_below HG3.out HBx.out) hg4)
 have HR4 := hid (show w4.heap[w.heap.size]? = some (.cells #[.bool false, .slice none 0 0, .slice none 0 0, .bool false, .slice none 0 0, .slice none 0 0] 34) from (HG4.out.block _ (by simp) (by intro e; injection e with e; omega)).trans (heap_alloc_new w _))
 obtain ⟨p0,f0⟩ := box_cell HP4.out (j := 0) rfl
 obtain ⟨p1,f1⟩ := box_cell HP4.out (j := 1) rfl
 obtain ⟨p2,f2⟩ := box_cell HP4.out (j := 2) rfl
 obtain ⟨p3,f3⟩ := box_cell HP4.out (j := 3) rfl
 obtain ⟨p4,f4⟩ := box_cell HP4.out (j := 4) rfl
 obtain ⟨p5,f5⟩ := box_cell HP4.out (j := 5) rfl
 have hl4 : w3.heap.size < w4.heap.size := by omega
 have hl0 : w.heap.size < w4.heap.size := by omega
 clear hc4 hg4
 cases b
 ·obtain ⟨r0,e0⟩ := box_cell HR4.out (j := 0) rfl
  obtain ⟨r1,e1⟩ := box_cell HR4.out (j := 1) rfl
  obtain ⟨r2,e2⟩ := box_cell HR4.out (j := 2) rfl
  obtain ⟨r3,e3⟩ := box_cell HR4.out (j := 3) rfl
  obtain ⟨r4,e4⟩ := box_cell HR4.out (j := 4) rfl
  obtain ⟨r5,e5⟩ := box_cell HR4.out (j := 5) rfl
  go_wp2
  refine bodyPost_ret (v := .agg #[.bool (ptI (x - 4) (y - 4)).x.num.neg, .slice D1 nD1 cD1, .slice D2 nD2 cD2, .bool (ptI (x - 4) (y - 4)).y.num.neg, .slice D4 nD4 cD4, .slice D5 nD5 cD5]) (by simp [results,Tryz.results28,go_sem, *]) rfl ?_
  have hk : ∀ b,b ≠ w.heap.size → ((((((w4.setCell ⟨w.heap.size,0,none⟩ (.bool (ptI (x - 4) (y - 4)).x.num.neg)).setCell ⟨w.heap.size,1,none⟩ (.slice D1 nD1 cD1)).setCell ⟨w.heap.size,2,none⟩ (.slice D2 nD2 cD2)).setCell ⟨w.heap.size,3,none⟩ (.bool (ptI (x - 4) (y - 4)).y.num.neg)).setCell ⟨w.heap.size,4,none⟩ (.slice D4 nD4 cD4)).setCell ⟨w.heap.size,5,none⟩ (.slice D5 nD5 cD5)).heap[b]? = w4.heap[b]? := fun b hb => heap_setCells w.heap.size [.bool (ptI (x - 4) (y - 4)).x.num.neg, .slice D1 nD1 cD1, .slice D2 nD2 cD2, .bool (ptI (x - 4) (y - 4)).y.num.neg, .slice D4 nD4 cD4, .slice D5 nD5 cD5] w4 0 b hb
  refine ⟨x - 4,y - 4,0, _,s3,rfl,⟨⟨by omega,by omega⟩,⟨by omega,by omega⟩, .inl rfl⟩, ?_,grown_after HG4.out (below_set6 _ (Nat.le_refl _) _ _ _ _ _ _),fun b hb => by have := (HS3.out b hb).1; omega⟩
  rw [ptD_zero]
  exact HA4.out.keep (fun b hb => hk b (by have := (HS3.out b hb).1; omega))
 ·have DR := hid (below_drew w4)
  have XD := hid (HX4.out.below DR.out)
  have CD := hid (HC4.out.below' DR.out)
  obtain ⟨sx,sy,hsxy,hax,hay⟩ := pt_x (HA4.out.below DR.out)
  have AXD := hid hax
  have HSX := hid (show ∀ b ∈ sx,b < w4.drew.heap.size ∧ b ≠ g from fun b hb => ⟨hax.lt b hb,by have := (HS3.out b (by rw [hsxy]; exact List.mem_append_left _ hb)).1; omega⟩)
  have AYD := hid hay
  have HSY := hid (show ∀ b ∈ sy,b < w4.drew.heap.size ∧ b ≠ g from fun b hb => ⟨hay.lt b hb,by have := (HS3.out b (by rw [hsxy]; exact List.mem_append_right _ hb)).1; omega⟩)
  have HSY3 := hid (show ∀ b ∈ sy,b ≠ w3.heap.size ∧ b ≠ w.heap.size from fun b hb => by have := HS3.out b (by rw [hsxy]; exact List.mem_append_right _ hb); omega)
  have KH := hid (show ∀ W : World,W.heap[w3.heap.size]? = some (.cells #[.bool (ptI (x - 4) (y - 4)).x.num.neg, .slice D1 nD1 cD1, .slice D2 nD2 cD2, .bool (ptI (x - 4) (y - 4)).y.num.neg, .slice D4 nD4 cD4, .slice D5 nD5 cD5] 34) → (W.cell? ⟨w3.heap.size,0,none⟩ = some (.bool (ptI (x - 4) (y - 4)).x.num.neg) ∧ W.cell? ⟨w3.heap.size,1,none⟩ = some (.slice D1 nD1 cD1) ∧ W.cell? ⟨w3.heap.size,2,none⟩ = some (.slice D2 nD2 cD2) ∧ W.frozen? ⟨w3.heap.size,0,none⟩ = false ∧ W.frozen? ⟨w3.heap.size,1,none⟩ = false ∧ W.frozen? ⟨w3.heap.size,2,none⟩ = false) from fun W h => ⟨(box_cell h (j := 0) rfl).1,(box_cell h (j := 1) rfl).1,(box_cell h (j := 2) rfl).1,(box_cell h (j := 0) rfl).2,(box_cell h (j := 1) rfl).2,(box_cell h (j := 2) rfl).2⟩)
  have ht : w3.heap.size < w4.drew.heap.size := Nat.lt_of_lt_of_le hl4 DR.out.size
  have HPD := hid ((DR.out.block _ hl4).trans HP4.out)
  have H5 := hid (show ∀ W : World,w4.drew.grownBy W (some g) → W.heap[w3.heap.size]? = some (.cells #[.bool (ptI (x - 4) (y - 4)).x.num.neg, .slice D1 nD1 cD1, .slice D2 nD2 cD2, .bool (ptI (x - 4) (y - 4)).y.num.neg, .slice D4 nD4 cD4, .slice D5 nD5 cD5] 34) from fun W h => (h.block w3.heap.size ht (by intro e; injection e with e; omega)).trans HPD.out)
  clear hax hay p3 p4 p5 f3 f4 f5
  go_wp2_with fail
  go_region_with (first
    | (go_at_call 69; refine (spec_l01Below 3 (by decide) (by decide) g A n c xs bs _ XD.out HN.out CD.out HG.out).mono ?_; rintro _ w5 ⟨q,rfl,hq,hc5,hg5⟩; obtain ⟨y0,y1,y2,y3,y4,y5⟩ := KH.out w5 (H5.out w5 hg5))
    | (go_at_call 73; rw [IntWalk.i64_in (2 + q) (by omega)]; refine (spec_RatOf_small 1 (2 + q) (by decide) (by decide) (by omega) (by omega) _).mono ?_; rintro _ w6 ⟨v6,s6,rfl,ha6,ho6,hb6⟩; obtain ⟨z0,z1,z2,z3,z4,z5⟩ := KH.out w6 (heap_keepD (H5.out w5 hg5) hb6))
    | (go_at_call 72; refine (spec_RatAdd _ _ (rint (x - 4)) (mkR 1 (2 + q)) _ _ _ ((AXD.out.keep (fun b hb => hg5.block b (HSX.out b hb).1 (by intro e; injection e with e; exact (HSX.out b hb).2 e))).below hb6) ha6).mono ?_; rintro _ w7 ⟨v7,s7,rfl,ha7,ho7,hb7⟩; obtain ⟨u0,u1,u2,u3,u4,u5⟩ := KH.out w7 (heap_keepD (heap_keepD (H5.out w5 hg5) hb6) hb7); obtain ⟨E1,nE1,cE1,e1,E2,nE2,cE2,e2,rfl,hze, _, _⟩ := TRat.agg ha7))
  all_goals
   have H7 := hid (heap_keepD (heap_keepD (H5.out w5 hg5) hb6) hb7)
   obtain ⟨q3,g3⟩ := box_cell H7.out (j := 3) rfl
   obtain ⟨q4,g4⟩ := box_cell H7.out (j := 4) rfl
   obtain ⟨q5,g5⟩ := box_cell H7.out (j := 5) rfl
   have HR7 := hid (show w7.heap[w.heap.size]? = some (.cells #[.bool false, .slice none 0 0, .slice none 0 0, .bool false, .slice none 0 0, .slice none 0 0] 34) from heap_keepD (heap_keepD ((hg5.block w.heap.size (Nat.lt_of_lt_of_le hl0 DR.out.size) (by intro e; injection e with e; omega)).trans ((DR.out.block _ hl0).trans HR4.out)) hb6) hb7)
   obtain ⟨r0,e0⟩ := box_cell HR7.out (j := 0) rfl
   obtain ⟨r1,e1'⟩ := box_cell HR7.out (j := 1) rfl
   obtain ⟨r2,e2'⟩ := box_cell HR7.out (j := 2) rfl
   obtain ⟨r3,e3⟩ := box_cell HR7.out (j := 3) rfl
   obtain ⟨r4,e4⟩ := box_cell HR7.out (j := 4) rfl
   obtain ⟨r5,e5⟩ := box_cell HR7.out (j := 5) rfl
   have hl7 : w3.heap.size < w7.heap.size := lt_of_get H7.out
   have hl70 : w.heap.size < w7.heap.size := by omega
   have n1 : w3.heap.size ≠ w.heap.size := by omega
   have n2 : w.heap.size ≠ w3.heap.size := by omega
   have HA7 := hid ha7
   have HG7 := hid (grown_below (grown_below (grown_next (grown_below HG4.out DR.out) hg5) hb6) hb7)
   have HY7 := hid (((AYD.out.keep (fun b hb => hg5.block b (HSY.out b hb).1 (by intro e; injection e with e; exact (HSY.out b hb).2 e))).below hb6).below hb7)
   have HS7 := hid (show ∀ b ∈ s7,b ≠ w3.heap.size ∧ b ≠ w.heap.size from fun b hb => by have := (ho7.2 b hb).1; have := hb6.size; have := lt_of_get (H5.out w5 hg5); omega)
   have HSR := hid (show ∀ b ∈ s7 ++ sy,w.heap.size ≤ b from fun b hb => by
    rcases List.mem_append.1 hb with hb | hb
    ·have := (ho7.2 b hb).1; have := hb6.size; have := lt_of_get (H5.out w5 hg5); omega
    ·have := HS3.out b (by rw [hsxy]; exact List.mem_append_right _ hb); omega)
   have hqb : 2 + q ≠ 0 := by omega
   have HQ := hid (show inD (x - 4) (y - 4) (2 + q) from ⟨⟨by omega,by omega⟩,⟨by omega,by omega⟩, .inr ⟨by omega,by omega⟩⟩)
   clear ha7 hze y0 y1 y2 y3 y4 y5 z0 z1 z2 z3 z4 z5 p0 p1 p2 f0 f1 f2 hb7 hb6 hg5
   go_wp2
   refine bodyPost_ret (v := .agg #[.bool (radd (rint (x - 4)) (mkR 1 (2 + q))).num.neg, .slice E1 nE1 cE1, .slice E2 nE2 cE2, .bool (ptI (x - 4) (y - 4)).y.num.neg, .slice D4 nD4 cD4, .slice D5 nD5 cD5]) (by simp [results,Tryz.results28,go_sem, *]) rfl ?_
   have hk : ∀ b,b ≠ w3.heap.size → b ≠ w.heap.size → (((((((((w7.setCell ⟨w3.heap.size,0,none⟩ (.bool (radd (rint (x - 4)) (mkR 1 (2 + q))).num.neg)).setCell ⟨w3.heap.size,1,none⟩ (.slice E1 nE1 cE1)).setCell ⟨w3.heap.size,2,none⟩ (.slice E2 nE2 cE2)).setCell ⟨w.heap.size,0,none⟩ (.bool (radd (rint (x - 4)) (mkR 1 (2 + q))).num.neg)).setCell ⟨w.heap.size,1,none⟩ (.slice E1 nE1 cE1)).setCell ⟨w.heap.size,2,none⟩ (.slice E2 nE2 cE2)).setCell ⟨w.heap.size,3,none⟩ (.bool (ptI (x - 4) (y - 4)).y.num.neg)).setCell ⟨w.heap.size,4,none⟩ (.slice D4 nD4 cD4)).setCell ⟨w.heap.size,5,none⟩ (.slice D5 nD5 cD5)).heap[b]? = w7.heap[b]? := fun b h1 h2 => (heap_setCells w.heap.size [.bool (radd (rint (x - 4)) (mkR 1 (2 + q))).num.neg, .slice E1 nE1 cE1, .slice E2 nE2 cE2, .bool (ptI (x - 4) (y - 4)).y.num.neg, .slice D4 nD4 cD4, .slice D5 nD5 cD5] (((w7.setCell ⟨w3.heap.size,0,none⟩ (.bool (radd (rint (x - 4)) (mkR 1 (2 + q))).num.neg)).setCell ⟨w3.heap.size,1,none⟩ (.slice E1 nE1 cE1)).setCell ⟨w3.heap.size,2,none⟩ (.slice E2 nE2 cE2)) 0 b h2).trans (heap_setCells w3.heap.size [(.bool (radd (rint (x - 4)) (mkR 1 (2 + q))).num.neg), .slice E1 nE1 cE1, .slice E2 nE2 cE2] w7 0 b h1)
   refine ⟨x - 4,y - 4,2 + q, _,s7 ++ sy,rfl,HQ.out, ?_,grown_after HG7.out (Below.trans (below_set3 _ (show w.heap.size ≤ w3.heap.size by omega) _ _ _) (below_set6 _ (Nat.le_refl _) _ _ _ _ _ _)),fun b hb => HSR.out b hb⟩
   rw [ptD_pos _ _ _ hqb]
   exact pt_join (x := ⟨radd (rint (x - 4)) (mkR 1 (2 + q)),rint (y - 4)⟩) (HA7.out.keep (fun b hb => hk b (HS7.out b hb).1 (HS7.out b hb).2)) (HY7.out.keep (fun b hb => hk b (HSY3.out b hb).1 (HSY3.out b hb).2))
end Go.Proofs.YtpfipnankjeokaaGreat.X
