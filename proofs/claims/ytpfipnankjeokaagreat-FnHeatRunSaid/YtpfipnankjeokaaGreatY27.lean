/- Part of a claim's proof: texts of this repository's wip,joined by prune.py,without the theorems that the claim does not reach. -/
import Derived.Test.YtpfipnankjeokaaGreatY26
import Derived.Test.YtpfipnankjeokaaGreatY3
set_option linter.constructorNameAsVariable false
namespace Go.Proofs.YtpfipnankjeokaaGreat.X
open Go.RowKit Go.XB Go.XN
def comb1 (r s : TRat) : Option TRat → Option TRat → Option TRat
 | some a,some b => some (radd (rmul r a) (rmul s b))
 | _, _ => none
attribute [local go_sem] fillBy Go.XB.opAt deps depOf Region.wanted yielded
attribute [local simp] deps depOf MP.eq MP.agg MP.aggS MP.sl MP.slbox Facts
set_option maxHeartbeats 8000000 in
set_option maxRecDepth 10000 in
theorem impl_Combine1 (vr vs va vb : Value) (r s a b : TRat) (br bs sa sb : List Nat) (w : World) (hr : Agg w vr r br) (hs : Agg w vs s bs) (ha : Agg w va (mat1 (some a)) sa) (hb : Agg w vb (mat1 (some b)) sb) (okr : ratOkB r = true) (oks : ratOkB s = true) (oka : Ok1 (some a)) (okb : Ok1 (some b)) (ok : Ok1 (some (radd (rmul r a) (rmul s b)))) :
  Calls Tryz.prog 114 #[vr,va,vs,vb] w (GivesMx w (some (radd (rmul r a) (rmul s b)))) := by
 have HR := hid hr; have HS := hid hs; have HA := hid ha; have HB := hid hb; have OKR := hid okr; have OKS := hid oks; have OKA := hid oka; have OKB := hid okb; have OKC := hid ok
 obtain ⟨R1,nR1,cR1,r1,R2,nR2,cR2,r2,rfl,rfl, _, _⟩ := TRat.agg hr
 obtain ⟨S1,nS1,cS1,s1,S2,nS2,cS2,s2,rfl,rfl, _, _⟩ := TRat.agg hs
 obtain ⟨ga,oa,ca,ga1,oa1,ca1,ga2,oa2,ca2,ta,⟨rfl,hga,ha0,ha1,hga1,hac,has⟩⟩ := at1 ha
 obtain ⟨gb,ob,cb,gb1,ob1,cb1,gb2,ob2,cb2,tb,⟨rfl,hgb,hb0,hb1,hgb1,hbc,hbs⟩⟩ := at1 hb
 clear hr hs ha hb okr oks oka okb ok ha0 ha1 hac has hb0 hb1 hbc hbs
 obtain ⟨w1,hw1⟩ : ∃ w1,w1 = (((((w.alloc (.cells #[.bool r.num.neg, .slice R1 nR1 cR1, .slice R2 nR2 cR2] 32)).alloc (.cells #[.slice (some ⟨ga,oa,none⟩) 1 ca] 143)).alloc (.cells #[.bool s.num.neg, .slice S1 nS1 cS1, .slice S2 nS2 cS2] 32)).alloc (.cells #[.slice (some ⟨gb,ob,none⟩) 1 cb] 143)).alloc (.cells #[.slice none 0 0] 143)) := ⟨_,rfl⟩
 have HW1 := hid hw1
 have HB1 := hid (show Below w.heap.size w w1 by rw [hw1]; exact allocs_below [_, _, _, _, _] w)
 have K0 := hid (show w1.heap[w.heap.size]? = some (.cells #[.bool r.num.neg, .slice R1 nR1 cR1, .slice R2 nR2 cR2] 32) by rw [hw1]; exact allocs_heap [_, _, _, _, _] w 0 _ rfl)
 have K1 := hid (show w1.heap[w.heap.size + 1]? = some (.cells #[.slice (some ⟨ga,oa,none⟩) 1 ca] 143) by rw [hw1]; exact allocs_heap [_, _, _, _, _] w 1 _ rfl)
 have K2 := hid (show w1.heap[w.heap.size + 1 + 1]? = some (.cells #[.bool s.num.neg, .slice S1 nS1 cS1, .slice S2 nS2 cS2] 32) by rw [hw1]; exact allocs_heap [_, _, _, _, _] w 2 _ rfl)
 have K3 := hid (show w1.heap[w.heap.size + 1 + 1 + 1]? = some (.cells #[.slice (some ⟨gb,ob,none⟩) 1 cb] 143) by rw [hw1]; exact allocs_heap [_, _, _, _, _] w 3 _ rfl)
 have K4 := hid (show w1.heap[w.heap.size + 1 + 1 + 1 + 1]? = some (.cells #[.slice none 0 0] 143) by rw [hw1]; exact allocs_heap [_, _, _, _, _] w 4 _ rfl)
 clear hw1
 go_enter Tryz.func114,Tryz.ntmps114
 go_upto_region 1 with fail
 rw [← HW1.out]
 have hs1 : w.heap.size + 1 + 1 + 1 + 1 < w1.heap.size := lt_of_block K4.out
 have hz0 : w.heap.size < w1.heap.size := by omega
 have hz1 : w.heap.size + 1 < w1.heap.size := by omega
 have hz2 : w.heap.size + 1 + 1 < w1.heap.size := by omega
 have hz3 : w.heap.size + 1 + 1 + 1 < w1.heap.size := by omega
 obtain ⟨k10, _⟩ := box_cell K1.out (j := 0) rfl
 simp at k10
 go_wp2_with fail
 refine (impl_IsMatrix _ (some a) sa w1 (HA.out.below HB1.out) OKA.out).mono ?_
 rintro _ w2 ⟨rfl,hb2⟩
 have HB2 := hid hb2
 obtain ⟨k30, _⟩ := box_cell (heap_keep' K3.out hb2) (j := 0) rfl
 simp at k30
 have hs2 := hb2.size
 have hz02 : w.heap.size < w2.heap.size := by omega
 have hz12 : w.heap.size + 1 < w2.heap.size := by omega
 have hz22 : w.heap.size + 1 + 1 < w2.heap.size := by omega
 have hz32 : w.heap.size + 1 + 1 + 1 < w2.heap.size := by omega
 clear hb2 k10
 go_wp2_with fail
 refine (impl_IsMatrix _ (some b) sb w2 (HB.out.below (Below.next HB1.out HB2.out)) OKB.out).mono ?_
 rintro _ w3 ⟨rfl,hb3⟩
 have HB3 := hid (Below.next HB2.out hb3)
 have hs3 := hb3.size
 have hz03 : w.heap.size < w3.heap.size := by omega
 have hz13 : w.heap.size + 1 < w3.heap.size := by omega
 have hz23 : w.heap.size + 1 + 1 < w3.heap.size := by omega
 have hz33 : w.heap.size + 1 + 1 + 1 < w3.heap.size := by omega
 obtain ⟨m00, _⟩ := box_cell (heap_keep' K0.out HB3.out) (j := 0) rfl
 obtain ⟨m01, _⟩ := box_cell (heap_keep' K0.out HB3.out) (j := 1) rfl
 obtain ⟨m02, _⟩ := box_cell (heap_keep' K0.out HB3.out) (j := 2) rfl
 obtain ⟨m10, _⟩ := box_cell (heap_keep' K1.out HB3.out) (j := 0) rfl
 obtain ⟨m20, _⟩ := box_cell (heap_keep' K2.out HB3.out) (j := 0) rfl
 obtain ⟨m21, _⟩ := box_cell (heap_keep' K2.out HB3.out) (j := 1) rfl
 obtain ⟨m22, _⟩ := box_cell (heap_keep' K2.out HB3.out) (j := 2) rfl
 obtain ⟨m30, _⟩ := box_cell (heap_keep' K3.out HB3.out) (j := 0) rfl
 simp at m00 m01 m02 m10 m20 m21 m22 m30
 clear hb3 k30
 go_wp2_with fail
 obtain ⟨W4,hW4⟩ : ∃ W4,W4 = w3.alloc (.cells #[.bool r.num.neg, .slice R1 nR1 cR1, .slice R2 nR2 cR2, .bool s.num.neg, .slice S1 nS1 cS1, .slice S2 nS2 cS2] 32) := ⟨_,rfl⟩
 have HB4 := hid (show Below w1.heap.size w1 W4 by rw [hW4]; exact Below.next HB3.out (Below.box _))
 have K9 := hid (show W4.heap[w3.heap.size]? = some (.cells #[.bool r.num.neg, .slice R1 nR1 cR1, .slice R2 nR2 cR2, .bool s.num.neg, .slice S1 nS1 cS1, .slice S2 nS2 cS2] 32) by rw [hW4]; exact heap_alloc_new w3 _)
 rw [← hW4]
 clear hW4 m00 m01 m02 m20 m21 m22 m30 m10
 have S2 := hid (sl_two (HR.out.below (Below.next HB1.out HB4.out)) (HS.out.below (Below.next HB1.out HB4.out)) (lt_of_block K9.out) (box_cell K9.out (j := 0) rfl).1 (box_cell K9.out (j := 1) rfl).1 (box_cell K9.out (j := 2) rfl).1 (box_cell K9.out (j := 3) rfl).1 (box_cell K9.out (j := 4) rfl).1 (box_cell K9.out (j := 5) rfl).1)
 have C := impl_areRats _ 2 2 [r,s] _ W4 S2.out
 rw [show [r,s].all ratOkB = true by simp [OKR.out,OKS.out]] at C
 refine C.mono ?_
 clear C
 rintro _ w5 ⟨rfl,hb5⟩
 have HB5 := hid (Below.next HB4.out hb5)
 have hs5 := HB5.out.size
 have hz05 : w.heap.size < w5.heap.size := by omega
 have hz15 : w.heap.size + 1 < w5.heap.size := by omega
 obtain ⟨m10, _⟩ := box_cell (heap_keep' K1.out HB5.out) (j := 0) rfl
 simp at m10
 clear hb5
 go_wp2_with fail
 refine (impl_zeros 1 w5 (by decide)).mono ?_
 rintro _ w6 ⟨oM,cap,gs,rfl,hst⟩
 have HST := hid hst
 clear hst
 go_wp2_with fail
 refine wp_loop_rounds 2 ?_
 rw [rounds_succ]
 go_wp2_with fail
 refine wp_loop_rounds 2 ?_
 rw [rounds_succ]
 have hHS := HST.out
 have hb6 := HST.out.bl
 obtain ⟨g4,c4,r4,hg4,hr4,hcell4,hol4,hRR, _⟩ := hHS.row (show 0 < 1 by decide)
 obtain rfl : [rint 0] = r4 := by simpa using hr4
 obtain ⟨x,G1,m1,e1,G2,m2,e2,fs2,hx0,v0,v1,v2,f0,f1,f2,hag9, _,hgl⟩ := hRR.elem (show 0 < 1 by decide)
 have HG4 := hid hg4; have HR4 := hid hr4
 simp only [Nat.zero_mul,Nat.zero_add] at v0 v1 v2 f0 f1 f2
 have hs6 := hb6.size
 obtain ⟨m00, _⟩ := box_cell (heap_keep' (heap_keep' K0.out HB5.out) hb6) (j := 0) rfl
 obtain ⟨m01, _⟩ := box_cell (heap_keep' (heap_keep' K0.out HB5.out) hb6) (j := 1) rfl
 obtain ⟨m02, _⟩ := box_cell (heap_keep' (heap_keep' K0.out HB5.out) hb6) (j := 2) rfl
 obtain ⟨n10, _⟩ := box_cell (heap_keep' (heap_keep' K1.out HB5.out) hb6) (j := 0) rfl
 obtain ⟨m20, _⟩ := box_cell (heap_keep' (heap_keep' K2.out HB5.out) hb6) (j := 0) rfl
 obtain ⟨m21, _⟩ := box_cell (heap_keep' (heap_keep' K2.out HB5.out) hb6) (j := 1) rfl
 obtain ⟨m22, _⟩ := box_cell (heap_keep' (heap_keep' K2.out HB5.out) hb6) (j := 2) rfl
 obtain ⟨m30, _⟩ := box_cell (heap_keep' (heap_keep' K3.out HB5.out) hb6) (j := 0) rfl
 simp at m00 m01 m02 n10 m20 m21 m22 m30
 have hz06 : w.heap.size < w6.heap.size := by omega
 have hz16 : w.heap.size + 1 < w6.heap.size := by omega
 have hz26 : w.heap.size + 1 + 1 < w6.heap.size := by omega
 have hz36 : w.heap.size + 1 + 1 + 1 < w6.heap.size := by omega
 have HBW := hid (Below.next (Below.next HB1.out HB5.out) hb6)
 have HBM := hid hb6
 clear hHS hb6 hg4 hr4 hRR hag9 hx0
 go_wp2_with fail
 refine wp_region_last (by simp) (by kernel_rfl) (by kernel_rfl) (by kernel_rfl) (by kernel_rfl) ?_
 dsimp only [List.dropLast,List.getLast,List.length]
 iterate 9
  apply walkM_eq
  case h =>
   intro yq zq wq hC hd
   obtain ⟨hcq,hfq⟩ := bcell hC
   simp at hd
   refine ⟨by go_simp; done, ?_⟩
   go_simp
   first | (go_ints; exact rfl) | (go_ints; rw [if_pos (by omega)]; try exact rfl) | exact rfl | (rw [if_pos (by omega)]; try exact rfl)
 refine walkM_call (MP.aggS a) ?_ ?_
 ·intro yq zq wq hC hd
  obtain ⟨hcq,hfq⟩ := bcell hC
  simp at hd
  refine ⟨by go_simp; done, ?_⟩
  apply Exists.intro
  apply Exists.intro
  constructor
  ·go_simp
   exact ⟨rfl,rfl⟩
  ·exact gives_aggS (impl_entry _ a _ wq (HA.out.below (Below.next HBW.out hC)))
 refine walkM_call (MP.agg (rmul r a)) ?_ ?_
 ·intro yq zq wq hC hd
  obtain ⟨hcq,hfq⟩ := bcell hC
  simp at hd
  refine ⟨by go_simp; done, ?_⟩
  apply Exists.intro
  apply Exists.intro
  constructor
  ·go_simp
   exact ⟨rfl,rfl⟩
  ·obtain ⟨_, _,s4,t2⟩ := hd
   exact gives_agg (impl_RatMul _ _ r a _ _ wq (HR.out.below (Below.next HBW.out hC)) t2)
 iterate 4
  apply walkM_eq
  case h =>
   intro yq zq wq hC hd
   obtain ⟨hcq,hfq⟩ := bcell hC
   simp at hd
   refine ⟨by go_simp; done, ?_⟩
   go_simp
   first | (go_ints; exact rfl) | (go_ints; rw [if_pos (by omega)]; try exact rfl) | exact rfl | (rw [if_pos (by omega)]; try exact rfl)
 refine walkM_call (MP.aggS b) ?_ ?_
 ·intro yq zq wq hC hd
  obtain ⟨hcq,hfq⟩ := bcell hC
  simp at hd
  refine ⟨by go_simp; done, ?_⟩
  apply Exists.intro
  apply Exists.intro
  constructor
  ·go_simp
   exact ⟨rfl,rfl⟩
  ·exact gives_aggS (impl_entry _ b _ wq (HB.out.below (Below.next HBW.out hC)))
 refine walkM_call (MP.agg (rmul s b)) ?_ ?_
 ·intro yq zq wq hC hd
  obtain ⟨hcq,hfq⟩ := bcell hC
  simp at hd
  refine ⟨by go_simp; done, ?_⟩
  apply Exists.intro
  apply Exists.intro
  constructor
  ·go_simp
   exact ⟨rfl,rfl⟩
  ·obtain ⟨_, _,s4,t2⟩ := hd
   exact gives_agg (impl_RatMul _ _ s b _ _ wq (HS.out.below (Below.next HBW.out hC)) t2)
 refine walkM_call (MP.agg (radd (rmul r a) (rmul s b))) ?_ ?_
 ·intro yq zq wq hC hd
  obtain ⟨hcq,hfq⟩ := bcell hC
  simp at hd
  refine ⟨by go_simp; done, ?_⟩
  apply Exists.intro
  apply Exists.intro
  constructor
  ·go_simp
   exact ⟨rfl,rfl⟩
  ·obtain ⟨t1,t2, _⟩ := hd
   exact gives_agg (impl_RatAdd _ _ (rmul r a) (rmul s b) _ _ wq t1.1 t2)
 apply walkM_eq
 case h =>
  intro yq zq wq hC hd
  obtain ⟨hcq,hfq⟩ := bcell hC
  simp at hd
  refine ⟨by go_simp; done, ?_⟩
  go_simp
  first | (go_ints; exact rfl) | (go_ints; rw [if_pos (by omega)]; try exact rfl) | exact rfl | (rw [if_pos (by omega)]; try exact rfl)
 intro yq zq wa hC hd hdis0
 have hdis := hid hdis0
 clear hdis0
 simp at hd
 have q17 := hd.2.2.2.2.2.2.2.2.2.2.2.2.2.2.2.2.2.1
 have q18 := hd.2.2.2.2.2.2.2.2.2.2.2.2.2.2.2.2.2.2
 have e18 := q18.1.1
 obtain ⟨⟨ha9,hf9⟩,hr9⟩ := q17
 obtain ⟨y,hy⟩ : ∃ y,radd (rmul r a) (rmul s b) = y := ⟨_,rfl⟩
 rw [hy] at ha9
 obtain ⟨V1,nV1,cV1,v1',V2,nV2,cV2,v2',e9,hz9, _, _⟩ := TRat.agg ha9
 rw [e9] at ha9
 have hwa := hC.size
 obtain ⟨k0,k1,k2,k3,k4,k5⟩ : wa.cell? ⟨g4,0,none⟩ = some (.bool x.num.neg) ∧ wa.cell? ⟨g4,1,none⟩ = some (.slice G1 m1 e1) ∧ wa.cell? ⟨g4,2,none⟩ = some (.slice G2 m2 e2) ∧ wa.frozen? ⟨g4,0,none⟩ = false ∧ wa.frozen? ⟨g4,1,none⟩ = false ∧ wa.frozen? ⟨g4,2,none⟩ = false :=
  ⟨(hC.cell (p := ⟨g4, _,none⟩) hgl).trans v0,(hC.cell (p := ⟨g4, _,none⟩) hgl).trans v1,(hC.cell (p := ⟨g4, _,none⟩) hgl).trans v2,(hC.frozen (p := ⟨g4, _,none⟩) hgl).trans f0,(hC.frozen (p := ⟨g4, _,none⟩) hgl).trans f1,(hC.frozen (p := ⟨g4, _,none⟩) hgl).trans f2⟩
 have hgla : g4 < wa.heap.size := by omega
 obtain ⟨W7,hW7⟩ : ∃ W7,W7 = (((wa.setCell ⟨g4,0,none⟩ (.bool y.num.neg)).setCell ⟨g4,1,none⟩ (.slice V1 nV1 cV1)).setCell ⟨g4,2,none⟩ (.slice V2 nV2 cV2)) := ⟨_,rfl⟩
 have Sn := hid (show MSt w5 W7 oM 1 cap 1 gs [[y]] by
  rw [hW7]
  have h := (HST.out.below hC).set HG4.out HR4.out (j := 0) (by decide) ha9 (fun b hb hm => by
   have h1 := (hr9 b hb).1
   have h2 := HST.out.ltAll b hm
   omega) (fun b hb => by
   have h1 := (hr9 b hb).1
   have h2 := HST.out.bl.size
   omega)
  simpa using h)
 have HW7 := hid hW7
 have HY := hid hy
 generalize zq 17 = z9 at *
 clear hd hdis q18 ha9 hf9 hr9 hz9 hC HST v0 v1 v2 f0 f1 f2 hwa hW7 hy m00 m01 m02 n10 m20 m21 m22 m30
 go_upto_region 11 with fail
 rw [HY.out, ← HW7.out]
 clear k0 k1 k2 k3 k4 k5
 go_wp2_with fail
 rw [rounds_succ]
 go_wp2_with fail
 rw [rounds_succ]
 go_wp2_with fail
 obtain ⟨bs7,hs7, _⟩ := Sn.out.sl
 have HS7 := hid hs7
 clear hs7
 refine (impl_sparse _ 1 cap [[y]] bs7 (some y) W7 HS7.out rfl (by have := OKC.out; rwa [HY.out] at this)).mono ?_
 rintro _ w8 ⟨v6,s6,rfl,ha6,hn6,hb6⟩
 obtain ⟨A6,n6,c6,r6,rfl,rfl,hr6⟩ := TMatrix.agg ha6
 have HA6 := hid ha6
 have HN6 := hid hn6
 have HB6 := hid (Below.next (Below.next HB5.out Sn.out.bl) hb6)
 obtain ⟨z0,z1⟩ := box_cell (heap_keep' K4.out HB6.out) (j := 0) rfl
 have hz6 : w.heap.size + 1 + 1 + 1 + 1 < w8.heap.size := by have := HB6.out.size; omega
 have hsn := Sn.out.bl.size
 clear ha6 hr6 hb6 hn6
 go_wp2
 refine bodyPost_ret (v := .tuple #[.agg #[.slice A6 n6 c6], .bool true]) (by simp [results,Tryz.results114,go_sem, *]) rfl ?_
 rw [HY.out]
 exact ⟨_,s6,rfl,HA6.out.keep (fun b hb => Below.heap_setCell _ _ _ _ (by have := HN6.out b hb; simp; omega)),(fun b hb => by have := HN6.out b hb; omega),(Below.next HB1.out HB6.out).setCell (p := ⟨w.heap.size + 1 + 1 + 1 + 1,0,none⟩) (by simp; omega) _⟩
set_option maxHeartbeats 8000000 in
set_option maxRecDepth 10000 in
theorem impl_Combine0 (vr vs va vb : Value) (r s : TRat) (br bs sa sb : List Nat) (w : World) (hr : Agg w vr r br) (hs : Agg w vs s bs) (ha : Agg w va (mat1 none) sa) (hb : Agg w vb (mat1 none) sb) (okr : ratOkB r = true) (oks : ratOkB s = true) :
  Calls Tryz.prog 114 #[vr,va,vs,vb] w (GivesMx w none) := by
 have HR := hid hr; have HS := hid hs; have HA := hid ha; have HB := hid hb; have OKR := hid okr; have OKS := hid oks
 obtain ⟨R1,nR1,cR1,r1,R2,nR2,cR2,r2,rfl,rfl, _, _⟩ := TRat.agg hr
 obtain ⟨S1,nS1,cS1,s1,S2,nS2,cS2,s2,rfl,rfl, _, _⟩ := TRat.agg hs
 obtain ⟨Aa,na,ca,ta,rfl,rfl,hqa⟩ := TMatrix.agg ha
 obtain rfl : 0 = na := by rw [← hqa.1]; rfl
 obtain ⟨Ab,nb,cb,tb,rfl,rfl,hqb⟩ := TMatrix.agg hb
 obtain rfl : 0 = nb := by rw [← hqb.1]; rfl
 clear hr hs ha hb okr oks hqa hqb
 obtain ⟨w1,hw1⟩ : ∃ w1,w1 = (((((w.alloc (.cells #[.bool r.num.neg, .slice R1 nR1 cR1, .slice R2 nR2 cR2] 32)).alloc (.cells #[.slice Aa 0 ca] 143)).alloc (.cells #[.bool s.num.neg, .slice S1 nS1 cS1, .slice S2 nS2 cS2] 32)).alloc (.cells #[.slice Ab 0 cb] 143)).alloc (.cells #[.slice none 0 0] 143)) := ⟨_,rfl⟩
 have HW1 := hid hw1
 have HB1 := hid (show Below w.heap.size w w1 by rw [hw1]; exact allocs_below [_, _, _, _, _] w)
 have K0 := hid (show w1.heap[w.heap.size]? = some (.cells #[.bool r.num.neg, .slice R1 nR1 cR1, .slice R2 nR2 cR2] 32) by rw [hw1]; exact allocs_heap [_, _, _, _, _] w 0 _ rfl)
 have K1 := hid (show w1.heap[w.heap.size + 1]? = some (.cells #[.slice Aa 0 ca] 143) by rw [hw1]; exact allocs_heap [_, _, _, _, _] w 1 _ rfl)
 have K2 := hid (show w1.heap[w.heap.size + 1 + 1]? = some (.cells #[.bool s.num.neg, .slice S1 nS1 cS1, .slice S2 nS2 cS2] 32) by rw [hw1]; exact allocs_heap [_, _, _, _, _] w 2 _ rfl)
 have K3 := hid (show w1.heap[w.heap.size + 1 + 1 + 1]? = some (.cells #[.slice Ab 0 cb] 143) by rw [hw1]; exact allocs_heap [_, _, _, _, _] w 3 _ rfl)
 have K4 := hid (show w1.heap[w.heap.size + 1 + 1 + 1 + 1]? = some (.cells #[.slice none 0 0] 143) by rw [hw1]; exact allocs_heap [_, _, _, _, _] w 4 _ rfl)
 clear hw1
 go_enter Tryz.func114,Tryz.ntmps114
 go_upto_region 1 with fail
 rw [← HW1.out]
 have hs1 : w.heap.size + 1 + 1 + 1 + 1 < w1.heap.size := lt_of_block K4.out
 have hz0 : w.heap.size < w1.heap.size := by omega
 have hz1 : w.heap.size + 1 < w1.heap.size := by omega
 have hz2 : w.heap.size + 1 + 1 < w1.heap.size := by omega
 have hz3 : w.heap.size + 1 + 1 + 1 < w1.heap.size := by omega
 obtain ⟨k10, _⟩ := box_cell K1.out (j := 0) rfl
 simp at k10
 go_wp2_with fail
 refine (impl_IsMatrix _ none _ w1 (HA.out.below HB1.out) trivial).mono ?_
 rintro _ w2 ⟨rfl,hb2⟩
 have HB2 := hid hb2
 obtain ⟨k30, _⟩ := box_cell (heap_keep' K3.out hb2) (j := 0) rfl
 simp at k30
 have hs2 := hb2.size
 have hz02 : w.heap.size < w2.heap.size := by omega
 have hz12 : w.heap.size + 1 < w2.heap.size := by omega
 have hz22 : w.heap.size + 1 + 1 < w2.heap.size := by omega
 have hz32 : w.heap.size + 1 + 1 + 1 < w2.heap.size := by omega
 clear hb2 k10
 go_wp2_with fail
 refine (impl_IsMatrix _ none _ w2 (HB.out.below (Below.next HB1.out HB2.out)) trivial).mono ?_
 rintro _ w3 ⟨rfl,hb3⟩
 have HB3 := hid (Below.next HB2.out hb3)
 have hs3 := hb3.size
 have hz03 : w.heap.size < w3.heap.size := by omega
 have hz13 : w.heap.size + 1 < w3.heap.size := by omega
 have hz23 : w.heap.size + 1 + 1 < w3.heap.size := by omega
 have hz33 : w.heap.size + 1 + 1 + 1 < w3.heap.size := by omega
 obtain ⟨m00, _⟩ := box_cell (heap_keep' K0.out HB3.out) (j := 0) rfl
 obtain ⟨m01, _⟩ := box_cell (heap_keep' K0.out HB3.out) (j := 1) rfl
 obtain ⟨m02, _⟩ := box_cell (heap_keep' K0.out HB3.out) (j := 2) rfl
 obtain ⟨m10, _⟩ := box_cell (heap_keep' K1.out HB3.out) (j := 0) rfl
 obtain ⟨m20, _⟩ := box_cell (heap_keep' K2.out HB3.out) (j := 0) rfl
 obtain ⟨m21, _⟩ := box_cell (heap_keep' K2.out HB3.out) (j := 1) rfl
 obtain ⟨m22, _⟩ := box_cell (heap_keep' K2.out HB3.out) (j := 2) rfl
 obtain ⟨m30, _⟩ := box_cell (heap_keep' K3.out HB3.out) (j := 0) rfl
 simp at m00 m01 m02 m10 m20 m21 m22 m30
 clear hb3 k30
 go_wp2_with fail
 obtain ⟨W4,hW4⟩ : ∃ W4,W4 = w3.alloc (.cells #[.bool r.num.neg, .slice R1 nR1 cR1, .slice R2 nR2 cR2, .bool s.num.neg, .slice S1 nS1 cS1, .slice S2 nS2 cS2] 32) := ⟨_,rfl⟩
 have HB4 := hid (show Below w1.heap.size w1 W4 by rw [hW4]; exact Below.next HB3.out (Below.box _))
 have K9 := hid (show W4.heap[w3.heap.size]? = some (.cells #[.bool r.num.neg, .slice R1 nR1 cR1, .slice R2 nR2 cR2, .bool s.num.neg, .slice S1 nS1 cS1, .slice S2 nS2 cS2] 32) by rw [hW4]; exact heap_alloc_new w3 _)
 rw [← hW4]
 clear hW4 m00 m01 m02 m20 m21 m22 m30 m10
 have S2 := hid (sl_two (HR.out.below (Below.next HB1.out HB4.out)) (HS.out.below (Below.next HB1.out HB4.out)) (lt_of_block K9.out) (box_cell K9.out (j := 0) rfl).1 (box_cell K9.out (j := 1) rfl).1 (box_cell K9.out (j := 2) rfl).1 (box_cell K9.out (j := 3) rfl).1 (box_cell K9.out (j := 4) rfl).1 (box_cell K9.out (j := 5) rfl).1)
 have C := impl_areRats _ 2 2 [r,s] _ W4 S2.out
 rw [show [r,s].all ratOkB = true by simp [OKR.out,OKS.out]] at C
 refine C.mono ?_
 clear C
 rintro _ w5 ⟨rfl,hb5⟩
 have HB5 := hid (Below.next HB4.out hb5)
 have hs5 := HB5.out.size
 have hz05 : w.heap.size < w5.heap.size := by omega
 have hz15 : w.heap.size + 1 < w5.heap.size := by omega
 obtain ⟨m10, _⟩ := box_cell (heap_keep' K1.out HB5.out) (j := 0) rfl
 simp at m10
 clear hb5
 go_wp2_with fail
 refine (impl_zeros 0 w5 (by decide)).mono ?_
 rintro _ w6 ⟨oM,cap,gs,rfl,hst⟩
 have HST := hid hst
 clear hst
 go_wp2_with fail
 refine wp_loop_rounds 1 ?_
 rw [rounds_succ]
 go_wp2_with fail
 refine (impl_sparse0 _ cap w6).mono ?_
 rintro _ w8 ⟨v6,s6,rfl,ha6,hn6,hb6⟩
 obtain ⟨A6,n6,c6,r6,rfl,rfl,hr6⟩ := TMatrix.agg ha6
 have HA6 := hid ha6
 have HN6 := hid hn6
 have HB6 := hid (Below.next (Below.next HB5.out HST.out.bl) hb6)
 obtain ⟨z0,z1⟩ := box_cell (heap_keep' K4.out HB6.out) (j := 0) rfl
 have hz6 : w.heap.size + 1 + 1 + 1 + 1 < w8.heap.size := by have := HB6.out.size; omega
 have hsn := HST.out.bl.size
 clear ha6 hr6 hb6 hn6
 go_wp2
 refine bodyPost_ret (v := .tuple #[.agg #[.slice A6 n6 c6], .bool true]) (by simp [results,Tryz.results114,go_sem, *]) rfl ?_
 exact ⟨_,s6,rfl,HA6.out.keep (fun b hb => Below.heap_setCell _ _ _ _ (by have := HN6.out b hb; simp; omega)),(fun b hb => by have := HN6.out b hb; omega),(Below.next HB1.out HB6.out).setCell (p := ⟨w.heap.size + 1 + 1 + 1 + 1,0,none⟩) (by simp; omega) _⟩
end Go.Proofs.YtpfipnankjeokaaGreat.X
namespace Go.Proofs.YtpfipnankjeokaaGreat.X
open Go.RowKit Go.XB Go.XN
def fac1 : Option TRat → TFactor
 | none => ⟨[], []⟩
 | some r => ⟨[[]], [r]⟩
def GivesFx (w : World) (o : Option TRat) (e : Ending) (w' : World) : Prop := ∃ v s,e = .returned (.tuple #[v, .bool true]) ∧ Agg w' v (fac1 o) s ∧ (∀ b ∈ s,w.heap.size ≤ b) ∧ Below w.heap.size w w'
attribute [local go_sem] fillBy Go.XB.opAt deps depOf Region.wanted yielded
attribute [local go_sem] eql_nil_rats
attribute [local simp] deps depOf MP.eq MP.agg MP.aggS MP.sl MP.slbox Facts
theorem infoRw2 : (Tryz.prog.info? 36).map (fun i => (i.zero,i.size,i.bytes)) = some (some (.slice none 0 0),1,24) := by kernel_rfl
set_option maxHeartbeats 4000000 in
theorem impl_minus0 (A0 : Option Addr) (n0 c0 : Nat) (A1 : Option Addr) (n1 c1 : Nat) (vr : Value) (r : TRat) (br : List Nat) (B : Option Addr) (d : Nat) (B' : Option Addr) (d' : Nat) (w : World) (hr : Agg w vr r br) :
  Calls Tryz.prog 185 #[.agg #[.slice A0 n0 c0, .slice A1 n1 c1],vr, .slice B 0 d, .slice B' 0 d'] w (Gives w vr) := by
 obtain ⟨R1,nR1,cR1,r1,R2,nR2,cR2,r2,rfl,rfl, _, _⟩ := TRat.agg hr
 clear hr
 go_enter Tryz.func185,Tryz.ntmps185
 go_wp2_with fail
 refine wp_loop_rounds 1 ?_
 rw [rounds_succ]
 go_wp2
 refine bodyPost_ret (v := .agg #[.bool r.num.neg, .slice R1 nR1 cR1, .slice R2 nR2 cR2]) (by simp [results,Tryz.results185,go_sem, *]) rfl ?_
 exact ⟨rfl,Below.go⟩
set_option maxHeartbeats 4000000 in
theorem impl_Factor0 (v : Value) (s : List Nat) (w : World) (hx : Agg w v (mat1 none) s) : Calls Tryz.prog 159 #[v] w (GivesFx w none) := by
 have HX := hid hx
 obtain ⟨A,n,c,s0,rfl,rfl,h0⟩ := TMatrix.agg hx
 obtain rfl : 0 = n := by rw [← h0.1]; rfl
 clear hx h0
 go_enter Tryz.func159,Tryz.ntmps159
 go_wp2_with fail
 refine (impl_IsSymmetric _ none _ ((w.alloc (.cells #[.slice A 0 c] 143)).alloc (.cells #[.slice none 0 0, .slice none 0 0] 178)) (HX.out.below Below.go) trivial).mono ?_
 rintro _ w1 ⟨rfl,hb1⟩
 obtain ⟨hc_w1,hf_w1⟩ := bcell hb1
 have hz0_w1 : w.heap.size < w1.heap.size := by have := hb1.size; (try simp at this); omega
 have hz1_w1 : w.heap.size + 1 < w1.heap.size := by have := hb1.size; (try simp at this); omega
 have HB1 := hid (show Below w.heap.size w w1 from Below.go)
 go_wp2_with fail
 refine wp_loop_rounds 1 ?_
 rw [rounds_succ]
 go_wp2
 refine bodyPost_ret (v := .tuple #[.agg #[.slice none 0 0, .slice none 0 0], .bool true]) (by simp [results,Tryz.results159,go_sem, *]) rfl ?_
 have hb9 := HB1.out
 exact ⟨_, [],rfl,TFactor.mkAgg (x := fac1 none) (Sl.nil _) (Sl.nil _),(fun b hb => by simp at hb),Below.go⟩
set_option maxHeartbeats 8000000 in
set_option maxRecDepth 10000 in
theorem impl_Factor1 (v : Value) (r : TRat) (s : List Nat) (w : World) (hx : Agg w v (mat1 (some r)) s) (ok : Ok1 (some r)) (hp : 0 < numv r) : Calls Tryz.prog 159 #[v] w (GivesFx w (some r)) := by
 have HX := hid hx; have OK1 := hid ok
 have RS := hid (show rsign r = 1 by unfold rsign; rw [if_pos ok.1]; unfold rsignV sgn; rw [if_neg (by omega),if_pos hp])
 obtain ⟨g,o,c,g1,o1,c1,g2,o2,c2,s2,⟨rfl,hg,h0,h1,hg1,hc,hs⟩⟩ := at1 hx
 obtain ⟨i1,gi,gz0,gz1,gz2⟩ := info_parts infoRw2
 obtain ⟨i2,hi,hz0,hz1,hz2⟩ := info_parts infoRt
 obtain ⟨A1,n1,d1,A2,n2,d2,fs,hl2,u0,u1,u2,hag⟩ := Sl.ratAt hs (k := 0) rfl
 simp at u0 u1 u2
 have HAG := hid hag
 have ENT := hid (show ∀ W : World,Below w.heap.size w W → Calls Tryz.prog 154 #[.agg #[.slice (some ⟨g,o,none⟩) 1 c], .int .i64 0, .int .i64 0] W (Gives W (.agg #[.bool r.num.neg, .slice A1 n1 d1, .slice A2 n2 d2])) from fun W hW =>
  impl_entryV r W g o c g1 o1 c1 g2 o2 c2 A1 n1 d1 A2 n2 d2 (Nat.lt_of_lt_of_le hg hW.size) ((hW.cell (p := ⟨g,o,none⟩) hg).trans h0) ((hW.cell (p := ⟨g,o + 1,none⟩) hg).trans h1) (Nat.lt_of_lt_of_le hg1 hW.size) ((hW.cell (p := ⟨g1,o1,none⟩) hg1).trans hc) (Nat.lt_of_lt_of_le hl2 hW.size) ((hW.cell (p := ⟨g2,o2,none⟩) hl2).trans u0) ((hW.cell (p := ⟨g2,o2 + 1,none⟩) hl2).trans u1) ((hW.cell (p := ⟨g2,o2 + 2,none⟩) hl2).trans u2))
 clear hx ok hp h0 h1 hc hs hg1 hg hl2 u0 u1 u2 hag
 go_enter Tryz.func159,Tryz.ntmps159
 go_wp2_with fail
 refine (impl_IsSymmetric _ (some r) _ ((w.alloc (.cells #[.slice (some ⟨g,o,none⟩) 1 c] 143)).alloc (.cells #[.slice none 0 0, .slice none 0 0] 178)) (HX.out.below Below.go) OK1.out).mono ?_
 rintro _ w1 ⟨rfl,hb1⟩
 have HB1 := hid (show Below w.heap.size w w1 from Below.go)
 have K0 := hid (show w1.heap[w.heap.size]? = some (.cells #[.slice (some ⟨g,o,none⟩) 1 c] 143) from heap_keep' (allocs_heap [_, _] w 0 _ rfl) (hb1.mono (Nat.le_refl _)))
 have K1 := hid (show w1.heap[w.heap.size + 1]? = some (.cells #[.slice none 0 0, .slice none 0 0] 178) from heap_keep' (allocs_heap [_, _] w 1 _ rfl) (hb1.mono (Nat.le_refl _)))
 have hz11 := lt_of_block K1.out
 have hz10 : w.heap.size < w1.heap.size := by omega
 obtain ⟨k0, _⟩ := box_cell K0.out (j := 0) rfl
 simp at k0
 clear hb1
 go_wp2_with fail
 refine wp_loop_rounds 2 ?_
 rw [rounds_succ]
 go_wp2_with fail
 refine wp_loop_rounds 1 ?_
 rw [rounds_succ]
 go_wp2_with fail
 obtain ⟨W2,hW2⟩ : ∃ W2,W2 = (w1.alloc (.cells #[.slice none 0 0, .slice none 0 0] 178)).alloc (.cells #[] 32) := ⟨_,rfl⟩
 obtain ⟨gF,hgF⟩ : ∃ gF,w1.heap.size = gF := ⟨_,rfl⟩
 have HB2 := hid (show Below w1.heap.size w1 W2 by rw [hW2]; exact allocs_below [_, _] w1)
 have KF := hid (show W2.heap[gF]? = some (.cells #[.slice none 0 0, .slice none 0 0] 178) by rw [hW2, ← hgF]; exact allocs_heap [_, _] w1 0 _ rfl)
 have KL := hid (show W2.heap[gF + 1]? = some (.cells #[] 32) by rw [hW2, ← hgF]; exact allocs_heap [_, _] w1 1 _ rfl)
 rw [← hW2,hgF]
 rw [hgF] at hz11 hz10
 have HGF := hid hgF
 clear hW2 hgF
 have hsF := lt_of_block KL.out
 have hsF0 : gF < W2.heap.size := by omega
 have hs20 : w.heap.size < W2.heap.size := by omega
 obtain ⟨f0, _⟩ := box_cell KF.out (j := 0) rfl
 obtain ⟨f1, _⟩ := box_cell KF.out (j := 1) rfl
 obtain ⟨m0, _⟩ := box_cell (heap_keep' K0.out HB2.out) (j := 0) rfl
 simp at f0 f1 m0
 have HBW := hid (Below.next HB1.out HB2.out)
 refine wp_region_last (by simp) (by kernel_rfl) (by kernel_rfl) (by kernel_rfl) (by kernel_rfl) ?_
 dsimp only [List.dropLast,List.getLast,List.length]
 iterate 4
  apply walkM_eq
  case h =>
   intro yq zq wq hC hd
   obtain ⟨hcq,hfq⟩ := bcell hC
   simp at hd
   refine ⟨by go_simp; done, ?_⟩
   go_simp
   first | (go_ints; exact rfl) | (go_ints; rw [if_pos (by omega)]; try exact rfl) | exact rfl | (rw [if_pos (by omega)]; try exact rfl)
 refine walkM_call (MP.eq (.agg #[.bool r.num.neg, .slice A1 n1 d1, .slice A2 n2 d2])) ?_ ?_
 ·intro yq zq wq hC hd
  obtain ⟨hcq,hfq⟩ := bcell hC
  simp at hd
  refine ⟨by go_simp; done, ?_⟩
  apply Exists.intro
  apply Exists.intro
  constructor
  ·go_simp
   exact ⟨rfl,rfl⟩
  ·exact gives_eq (ENT.out wq (Below.next HBW.out hC))
 iterate 2
  apply walkM_eq
  case h =>
   intro yq zq wq hC hd
   obtain ⟨hcq,hfq⟩ := bcell hC
   simp at hd
   refine ⟨by go_simp; done, ?_⟩
   go_simp
   first | (go_ints; exact rfl) | (go_ints; rw [if_pos (by omega)]; try exact rfl) | exact rfl | (rw [if_pos (by omega)]; try exact rfl)
 refine walkM_call (MP.eq (.agg #[.bool r.num.neg, .slice A1 n1 d1, .slice A2 n2 d2])) ?_ ?_
 ·intro yq zq wq hC hd
  obtain ⟨hcq,hfq⟩ := bcell hC
  simp at hd
  refine ⟨by go_simp; done, ?_⟩
  apply Exists.intro
  apply Exists.intro
  constructor
  ·go_simp
   exact ⟨rfl,rfl⟩
  ·exact gives_eq (impl_minus0 none 0 0 none 0 0 _ r _ (some ⟨gF + 1,0,none⟩) 0 (some ⟨gF + 1,0,none⟩) 0 wq (HAG.out.below (Below.next HBW.out hC)))
 refine walkM_new #[.bool false, .slice none 0 0, .slice none 0 0] 32 ?_ ?_
 ·intro yq zq wq hC hd
  refine ⟨by go_simp; done, ?_⟩
  go_simp
 intro yq zq wa hC hd hdis0
 have hdis := hid hdis0
 clear hdis0
 simp at hd
 have q7 := hd.2.2.2.2.2.2.2.1
 have q8 := hd.2.2.2.2.2.2.2.2
 have e7 := q7.1.1
 obtain ⟨⟨gP,e8,z8,hgP⟩,hr8⟩ := q8
 rw [z8] at hr8
 have hgP2 : W2.heap.size ≤ gP := (hr8 gP (by simp)).1
 have hgPl := lt_of_get hgP
 obtain ⟨p0,p1⟩ := box_cell hgP (j := 0) rfl
 obtain ⟨p2,p3⟩ := box_cell hgP (j := 1) rfl
 obtain ⟨p4,p5⟩ := box_cell hgP (j := 2) rfl
 obtain ⟨W3,hW3⟩ : ∃ W3,W3 = (((wa.setCell ⟨gP,0,none⟩ (.bool r.num.neg)).setCell ⟨gP,1,none⟩ (.slice A1 n1 d1)).setCell ⟨gP,2,none⟩ (.slice A2 n2 d2)) := ⟨_,rfl⟩
 have HW3 := hid hW3
 have HB3 := hid (show Below W2.heap.size W2 W3 by
  rw [hW3]
  exact ((hC.setCell (p := ⟨gP,0,none⟩) hgP2 _).setCell (p := ⟨gP,1,none⟩) hgP2 _).setCell (p := ⟨gP,2,none⟩) hgP2 _)
 have KP := hid (show W3.heap[gP]? = some (.cells #[.bool r.num.neg, .slice A1 n1 d1, .slice A2 n2 d2] 32) by
  rw [hW3]; exact heap_setSelf (heap_setSelf (heap_setSelf hgP)))
 clear hd hdis q7 hr8 hgP hC z8 hW3 f0 f1 m0
 go_upto_region 14 with fail
 rw [← HW3.out]
 clear p0 p1 p2 p3 p4 p5 hgPl
 have HBW3 := hid (Below.next HBW.out HB3.out)
 have AG3 := hid (HAG.out.below HBW3.out)
 obtain ⟨p0, _⟩ := box_cell KP.out (j := 0) rfl
 obtain ⟨p1, _⟩ := box_cell KP.out (j := 1) rfl
 obtain ⟨p2, _⟩ := box_cell KP.out (j := 2) rfl
 simp at p0 p1 p2
 go_wp2_with fail
 have C := impl_RatSign _ r _ W3 AG3.out
 rw [RS.out] at C
 refine C.mono ?_
 clear C
 rintro _ w4 ⟨rfl,hb4⟩
 have HB34 := hid hb4
 have HB4 := hid (Below.next HB3.out hb4)
 clear hb4 p0 p1 p2
 go_wp2_with fail
 have SL := hid (show Sl w4 (some ⟨gF + 1,0,none⟩) 0 0 ([] : List TRat) [] from ⟨rfl,Nat.le_refl _,by decide,fun _ => rfl,fun h => absurd h (by decide)⟩)
 refine (impl_ifVector _ 0 0 [] [] w4 SL.out rfl).mono ?_
 rintro _ w5 ⟨rfl,hb5⟩
 have HB35 := hid (Below.next HB34.out hb5)
 have HB5 := hid (Below.next HB4.out hb5)
 have KF5 := hid (heap_keep' KF.out HB5.out)
 have hs5 := HB5.out.size
 have hsF5 : gF < w5.heap.size := by omega
 obtain ⟨f0,f1⟩ := box_cell KF5.out (j := 0) rfl
 simp at f0
 clear hb5
 go_wp2_with (at_builtin; refine wpList_push0 rfl _ _ 55 rfl 36 i1 (.slice none 0 0) 1 24 Tryz.underlying55 gi gz0 gz1 gz2 rfl (by decide) (by go_simp; done) ⟨w5.heap.size,0,none⟩ 1 [.slice (some ⟨gF + 1,0,none⟩) 0 0] (by go_simp; done) rfl (block_cells (heap_alloc_new w5 _)) (by simp [Value.oneCell']) (by decide) ?_; intro gC capC w8 hownC hb8 hgC; have z20 := (hb8.cell (p := ⟨gF,0,none⟩) (by simp; omega)).trans (((Below.box (w := w5) (.cells #[.slice (some ⟨gF + 1,0,none⟩) 0 0] 36)).cell (p := ⟨gF,0,none⟩) (by simp; omega)).trans f0); have z21 := (hb8.frozen (p := ⟨gF,0,none⟩) (by simp; omega)).trans (((Below.box (w := w5) (.cells #[.slice (some ⟨gF + 1,0,none⟩) 0 0] 36)).frozen (p := ⟨gF,0,none⟩) (by simp; omega)).trans f1))
 obtain ⟨W9,hW9⟩ : ∃ W9,W9 = w8.setCell ⟨gF,0,none⟩ (.slice (some ⟨gC,0,none⟩) 1 capC) := ⟨_,rfl⟩
 have HB58 := hid (show Below w5.heap.size w5 w8 from Below.next (Below.box _) hb8)
 have hgC5 : w5.heap.size < gC := by simp at hgC; omega
 have HB28 := hid (Below.next HB5.out HB58.out)
 have hgF1 : w1.heap.size ≤ gF := by rw [HGF.out]; exact Nat.le_refl _
 have J2 := hid (show W9.heap[gF]? = some (.cells #[.slice (some ⟨gC,0,none⟩) 1 capC, .slice none 0 0] 178) by rw [hW9]; exact heap_setSelf (heap_keep' KF.out HB28.out))
 have JP := hid (show W9.heap[gP]? = some (.cells #[.bool r.num.neg, .slice A1 n1 d1, .slice A2 n2 d2] 32) by rw [hW9]; exact (Below.heap_setCell _ _ _ _ (by simp; omega)).trans (heap_keep' KP.out (Below.next HB35.out HB58.out)))
 have J1 := hid (show W9.heap[w.heap.size + 1]? = some (.cells #[.slice none 0 0, .slice none 0 0] 178) by rw [hW9]; exact (Below.heap_setCell _ _ _ _ (by simp; omega)).trans (heap_keep' (heap_keep' K1.out HB2.out) HB28.out))
 have SL8 := hid (show Dat.at_ w8 [.slice (some ⟨gF + 1,0,none⟩) 0 0] ([] : List TRat) [] from ⟨_, _, _,rfl,⟨rfl,Nat.le_refl _,by decide,fun _ => rfl,fun h => absurd h (by decide)⟩⟩)
 have SC := hid (show Sl W9 (some ⟨gC,0,none⟩) 1 capC [([] : List TRat)] [gC] by rw [hW9]; exact (push0_sl (α := List TRat) hownC SL8.out).keep (fun b hb => Below.heap_setCell _ _ _ _ (by simp at hb; subst hb; simp; omega)))
 have HB9 := hid (show Below w1.heap.size w1 W9 by rw [hW9]; exact (Below.next HB2.out HB28.out).setCell (p := ⟨gF,0,none⟩) hgF1 _)
 have hgF9 : gF < W9.heap.size := lt_of_block J2.out
 have hgP9 : gP < W9.heap.size := lt_of_block JP.out
 rw [← hW9]
 clear hW9 hownC hb8 hgC z20 z21 f0 f1
 obtain ⟨y22,y23⟩ := box_cell J2.out (j := 1) rfl
 obtain ⟨x30,x31⟩ := box_cell JP.out (j := 0) rfl
 obtain ⟨x32,x33⟩ := box_cell JP.out (j := 1) rfl
 obtain ⟨x34,x35⟩ := box_cell JP.out (j := 2) rfl
 simp at y22 x30 x32 x34
 have HBW9 := hid (Below.next HB1.out HB9.out)
 refine wp_region_line 5 (by kernel_rfl) (by kernel_rfl) (by kernel_rfl) (by kernel_rfl) (by kernel_rfl) ?_
 simp only [List.take_succ_cons,List.take_zero,List.drop_succ_cons,List.drop_zero]
 iterate 3
  apply walkM_eq
  case h =>
   intro yq zq wq hC hd
   obtain ⟨hcq,hfq⟩ := bcell hC
   simp at hd
   refine ⟨by go_simp; done, ?_⟩
   go_simp
   first | (go_ints; exact rfl) | (go_ints; rw [if_pos (by omega)]; try exact rfl) | exact rfl | (rw [if_pos (by omega)]; try exact rfl)
 refine walkM_call (MP.agg r) ?_ ?_
 ·intro yq zq wq hC hd
  obtain ⟨hcq,hfq⟩ := bcell hC
  simp at hd
  refine ⟨by go_simp; done, ?_⟩
  apply Exists.intro
  apply Exists.intro
  constructor
  ·go_simp
   exact ⟨rfl,rfl⟩
  ·exact gives_agg (impl_copyRat _ _ _ wq (HAG.out.below (Below.next HBW9.out hC)) (Nat.le_trans (lim24_ok OK1.out.1).1 (by decide)) (Nat.le_trans (lim24_ok OK1.out.1).2 (by decide)))
 refine walkM_runD (fun y' => MP.slbox (y' 3).cells 32) (by intro y y' h; simp [deps,depOf] at h; simp [h]) ?_ ?_
 ·intro yq zq wq hC hd
  simp at hd
  obtain ⟨E1,nE1,cE1,e1,E2,nE2,cE2,e2,e13, _, _, _⟩ := TRat.agg hd.1
  refine ⟨by go_simp; done, .slice (some ⟨wq.heap.size,0,none⟩) 1 1,wq.alloc (.cells (yq 3).cells 32), ?_,Below.box _, [wq.heap.size],⟨wq.heap.size,rfl,rfl,heap_alloc_new wq _⟩,by simp⟩
  rw [e13]
  go_simp
 intro yr zr wb hC hd hdis0
 have hdis := hid hdis0
 clear hdis0
 simp at hd
 have q1 := hd.2.1
 have q3 := hd.2.2.2.1
 have q4 := hd.2.2.2.2
 obtain ⟨⟨ha,hf⟩,hr⟩ := q3
 obtain ⟨G1,nG1,cG1,g1',G2,nG2,cG2,g2',e15,z15,m1,m2⟩ := TRat.agg ha
 obtain ⟨⟨gn,e16,z16,hgn⟩,hr16⟩ := q4
 rw [e15] at hgn ha
 have AT := hid (rat_dat ha)
 have HR3 := hid (show ∀ b ∈ zr 3,W9.heap.size ≤ b from fun b hb => (hr b hb).1)
 have HBb := hid hC
 have HGN := hid hgn
 have e1' : yr 1 = .slice none 0 0 := q1.1.1
 generalize zr 3 = r3 at *
 clear hd hdis ha hf hr z15 m1 m2 hgn hr16 z16 q1 hC
 obtain ⟨u22,u23⟩ := box_cell (heap_keep' J2.out HBb.out) (j := 1) rfl
 simp at u22
 have hla : gF < wb.heap.size := by have := HBb.out.size; omega
 go_wp2_with (at_builtin; refine wpList_push0 rfl _ _ 36 rfl 32 i2 (.agg #[.bool false, .slice none 0 0, .slice none 0 0]) 3 56 Tryz.underlying36 hi hz0 hz1 hz2 rfl (by decide) (by go_simp; done) ⟨gn,0,none⟩ 1 [.bool r.num.neg, .slice G1 nG1 cG1, .slice G2 nG2 cG2] (by go_simp; done) rfl (block_cells HGN.out) (Dat.one AT.out) (by decide) ?_; intro gV capV w11 hownV hb11 hgV; have v22 := (hb11.cell (p := ⟨gF,1,none⟩) (by simp; omega)).trans u22; have v23 := (hb11.frozen (p := ⟨gF,1,none⟩) (by simp; omega)).trans u23)
 obtain ⟨W12,hW12⟩ : ∃ W12,W12 = w11.setCell ⟨gF,1,none⟩ (.slice (some ⟨gV,0,none⟩) 1 capV) := ⟨_,rfl⟩
 have HB911 := hid (show Below W9.heap.size W9 w11 from Below.next HBb.out hb11)
 have hgV9 : W9.heap.size ≤ gV := by have := HBb.out.size; omega
 have L2 := hid (show W12.heap[gF]? = some (.cells #[.slice (some ⟨gC,0,none⟩) 1 capC, .slice (some ⟨gV,0,none⟩) 1 capV] 178) by rw [hW12]; exact heap_setSelf (heap_keep' J2.out HB911.out))
 have L1 := hid (show W12.heap[w.heap.size + 1]? = some (.cells #[.slice none 0 0, .slice none 0 0] 178) by rw [hW12]; exact (Below.heap_setCell _ _ _ _ (by simp; omega)).trans (heap_keep' J1.out HB911.out))
 have SV := hid (show Sl W12 (some ⟨gV,0,none⟩) 1 capV [r] (gV :: r3) by
  rw [hW12]
  exact (push0_sl (α := TRat) hownV (Dat.keep AT.out (fun b hb => hb11.block b (Dat.lt AT.out b hb)))).keep (fun b hb => Below.heap_setCell _ _ _ _ (by
   simp
   rcases List.mem_cons.1 hb with rfl | hb
   ·omega
   ·have := HR3.out b hb; omega)))
 have SC2 := hid (show Sl W12 (some ⟨gC,0,none⟩) 1 capC [([] : List TRat)] [gC] by rw [hW12]; exact (SC.out.below HB911.out).keep (fun b hb => Below.heap_setCell _ _ _ _ (by simp at hb; subst hb; simp; omega)))
 have HB12 := hid (show Below w1.heap.size w1 W12 by rw [hW12]; exact (Below.next HB9.out HB911.out).setCell (p := ⟨gF,1,none⟩) hgF1 _)
 have hs12 : w.heap.size + 1 < W12.heap.size := lt_of_block L1.out
 have hs12' : gF < W12.heap.size := lt_of_block L2.out
 have hsz1 := HB1.out.size
 rw [← hW12]
 clear hW12 hownV hb11 hgV v22 v23 u22 u23 y22 y23 x30 x31 x32 x33 x34 x35 hla
 obtain ⟨y20,y21⟩ := box_cell L2.out (j := 0) rfl
 obtain ⟨y22,y23⟩ := box_cell L2.out (j := 1) rfl
 obtain ⟨x10,x11⟩ := box_cell L1.out (j := 0) rfl
 obtain ⟨x12,x13⟩ := box_cell L1.out (j := 1) rfl
 simp at y20 y22 x10 x12
 rw [rounds_succ]
 go_wp2
 refine bodyPost_ret (v := .tuple #[.agg #[.slice (some ⟨gC,0,none⟩) 1 capC, .slice (some ⟨gV,0,none⟩) 1 capV], .bool true]) (by simp [results,Tryz.results159,go_sem, *]) rfl ?_
 have HN := hid (show ∀ b ∈ [gC] ++ (gV :: r3),w.heap.size + 1 < b from fun b hb => by
   rcases List.mem_append.1 hb with hb | hb
   ·simp at hb; subst hb; omega
   rcases List.mem_cons.1 hb with rfl | hb
   ·omega
   ·have h1 := HR3.out b hb; omega)
 have HK := hid (show ∀ b ∈ [gC] ++ (gV :: r3),((W12.setCell ⟨w.heap.size + 1,0,none⟩ (.slice (some ⟨gC,0,none⟩) 1 capC)).setCell ⟨w.heap.size + 1,1,none⟩ (.slice (some ⟨gV,0,none⟩) 1 capV)).heap[b]? = W12.heap[b]? from fun b hb => (Below.heap_setCell _ _ _ _ (by have := HN.out b hb; simp; omega)).trans (Below.heap_setCell _ _ _ _ (by have := HN.out b hb; simp; omega)))
 exact ⟨_, _,rfl,TFactor.mkAgg (x := fac1 (some r)) (SC2.out.keep (fun b hb => HK.out b (List.mem_append_left _ hb))) (SV.out.keep (fun b hb => HK.out b (List.mem_append_right _ hb))),(fun b hb => by have := HN.out b hb; omega),(((Below.next HB1.out HB12.out)).setCell (p := ⟨w.heap.size + 1,0,none⟩) (by simp) _).setCell (p := ⟨w.heap.size + 1,1,none⟩) (by simp) _⟩
end Go.Proofs.YtpfipnankjeokaaGreat.X
namespace Go.Proofs.YtpfipnankjeokaaGreat.X
open Go.RowKit Go.XB Go.XN
theorem sl_one {W : World} {g o c : Nat} {r : TRat} {b1 : List Nat} {u0 u1 u2 : Value} (h1 : Agg W (.agg #[u0,u1,u2]) r b1) (hg : g < W.heap.size) (hc : 1 ≤ c ∧ c ≤ maxLen)
  (c0 : W.cell? ⟨g,o,none⟩ = some u0) (c1 : W.cell? ⟨g,o + 1,none⟩ = some u1) (c2 : W.cell? ⟨g,o + 2,none⟩ = some u2) : Sl W (some ⟨g,o,none⟩) 1 c [r] (g :: b1) := by
 have a1 := rat_dat h1
 refine ⟨rfl,hc.1,hc.2,fun h => absurd h (by decide),fun _ => ⟨g,o, [b1],rfl,by simp,rfl,hg,fun k x fs hx hf => ?_⟩⟩
 obtain rfl : k = 0 := by have := (List.getElem?_eq_some_iff.1 hx).1; simp at this; exact this
 simp at hx hf; subst hx; subst hf
 refine ⟨_,fun j u hu => ?_,a1⟩
 match j,hu with
 | 0,hu => simp at hu; subst hu; simpa using c0
 | 1,hu => simp at hu; subst hu; simpa using c1
 | 2,hu => simp at hu; subst hu; simpa using c2
theorem own_thaw {w0 w : World} {bs : List Nat} (h : Own w0 w bs) {b : Nat} (hb : b ∈ bs) (o : Nat) : w.frozen? ⟨b,o,none⟩ = false := by
 obtain ⟨cs,t,e⟩ := (h.2 b hb).2
 unfold World.frozen?; rw [e]; simp
def solveL : Option TRat → List TRat → List TRat
 | some r,y :: _ => [rdiv y r]
 | _, _ => []
def GivesSolve (w : World) (xs : List TRat) (e : Ending) (w' : World) : Prop := ∃ A n c bs,e = .returned (.tuple #[.slice A n c, .bool true]) ∧ Sl w' A n c xs bs ∧ Own w w' bs ∧ Below w.heap.size w w'
attribute [local go_sem] fillBy Go.XB.opAt deps depOf Region.wanted yielded
attribute [local simp] deps depOf MP.eq MP.agg MP.aggS MP.sl MP.slbox Facts
set_option maxHeartbeats 4000000 in
theorem impl_solve0 (v : Value) (s : List Nat) (B : Option Addr) (d : Nat) (ds : List Nat) (w : World) (hx : Agg w v (fac1 none) s) (hb : Sl w B 0 d ([] : List TRat) ds) : Calls Tryz.prog 160 #[v, .slice B 0 d] w (GivesSl w ([] : List TRat)) := by
 have HX := hid hx; have HBB := hid hb
 obtain ⟨A0,n0,c0,s0,A1,n1,c1,s1,rfl,rfl,hs0,hs1⟩ := TFactor.agg hx
 obtain rfl : 0 = n0 := by rw [← hs0.1]; rfl
 obtain rfl : 0 = n1 := by rw [← hs1.1]; rfl
 clear hx hb hs0 hs1
 go_enter Tryz.func160,Tryz.ntmps160
 go_wp2_with fail
 refine (impl_copyVector B 0 d [] ds _ (HBB.out.below Below.go) (by decide) (fun x hx => by simp at hx)).mono ?_
 rintro _ w1 ⟨A9,n9,c9,b9,rfl,hs9,ho9,hb9⟩
 obtain rfl : 0 = n9 := by rw [← hs9.1]; rfl
 obtain ⟨hc_w1,hf_w1⟩ := bcell hb9
 have hz0_w1 : w.heap.size < w1.heap.size := by have := hb9.size; (try simp at this); omega
 have HB1 := hid (show Below w.heap.size w w1 from Below.go)
 have HS9 := hid hs9; have HO9 := hid (ho9.older (w0 := w) (by simp))
 clear hs9 ho9 hb9
 go_wp2_with fail
 refine wp_loop_rounds 1 ?_
 rw [rounds_succ]
 go_wp2_with fail
 refine wp_loop_rounds 1 ?_
 rw [rounds_succ]
 go_wp2_with fail
 refine wp_loop_rounds 1 ?_
 rw [rounds_succ]
 go_wp2_with fail
 refine (impl_ifVector A9 0 c9 [] b9 w1 HS9.out rfl).mono ?_
 rintro _ w7 ⟨rfl,hb7⟩
 have HB7 := hid hb7
 clear hb7
 go_wp2
 go_ret
 exact ⟨A9,0,c9,b9,rfl,HS9.out.below HB7.out,HO9.out.below HB7.out,Below.next HB1.out HB7.out⟩
set_option maxHeartbeats 8000000 in
set_option maxRecDepth 10000 in
theorem impl_solve1 (v : Value) (r y : TRat) (s : List Nat) (B : Option Addr) (d : Nat) (ds : List Nat) (w : World) (hx : Agg w v (fac1 (some r)) s) (hb : Sl w B 1 d [y] ds) (okr : ratOkB r = true) (oky : ratOkB y = true) (h0 : r.num.mag ≠ []) (ok : denBad (rdiv y r) = false) :
  Calls Tryz.prog 160 #[v, .slice B 1 d] w (GivesSl w [rdiv y r]) := by
 have HX := hid hx; have HBB := hid hb; have OKR := hid okr; have OKY := hid oky; have H0 := hid h0; have OK := hid ok
 obtain ⟨A0,n0,c0,s0,A1,n1,c1,s1,rfl,rfl,hs0,hs1⟩ := TFactor.agg hx
 obtain rfl : 1 = n0 := by rw [← hs0.1]; rfl
 obtain rfl : 1 = n1 := by rw [← hs1.1]; rfl
 obtain ⟨gl,ol,l0,Al,nl,cl,fl,rfl,hgl,hl0,hel,hsl, _⟩ := Sl.elemS hs0 (show 0 < 1 by decide)
 simp [fac1] at hl0
 subst hl0
 obtain rfl : 0 = nl := by rw [← hsl.1]; rfl
 obtain ⟨gp,op, _,rfl, _⟩ := hs1.2.2.2.2 (by decide)
 obtain ⟨P1,np1,cp1,P2,np2,cp2,fp,hgp,p0,p1,p2,hap⟩ := Sl.ratAt hs1 (k := 0) rfl
 simp at hel p0 p1 p2
 have HAP := hid hap
 have LY := hid (lim24_ok oky)
 clear hx hb hs0 hs1 hsl okr oky h0 ok hap
 go_enter Tryz.func160,Tryz.ntmps160
 go_wp2_with fail
 refine (impl_copyVector B 1 d [y] ds _ (HBB.out.below Below.go) (by decide) (fun x hx => by simp at hx; subst hx; exact LY.out)).mono ?_
 rintro _ w1 ⟨A9,n9,c9,b9,rfl,hs9,ho9,hb9⟩
 obtain rfl : 1 = n9 := by rw [← hs9.1]; rfl
 obtain ⟨gx,ox,bss,rfl,hb9e, _⟩ := hs9.2.2.2.2 (by decide)
 have hgxm : gx ∈ b9 := by rw [hb9e]; exact List.mem_cons_self ..
 obtain ⟨hc_w1,hf_w1⟩ := bcell hb9
 have hz0_w1 : w.heap.size < w1.heap.size := by have := hb9.size; (try simp at this); omega
 have HB1 := hid (show Below w.heap.size w w1 from Below.go)
 have HN9 := hid (show w.heap.size < gx by have := (ho9.2 gx hgxm).1; simp at this; omega)
 have HS9 := hid hs9; have HO9 := hid (ho9.older (w0 := w) (by simp))
 have hc9 := hid (show 1 ≤ c9 ∧ c9 ≤ maxLen from ⟨hs9.2.1,hs9.2.2.1⟩)
 have K0 := hid (show w1.heap[w.heap.size]? = some (.cells #[.slice (some ⟨gl,ol,none⟩) 1 c0, .slice (some ⟨gp,op,none⟩) 1 c1] 178) from heap_keep' (heap_alloc_new w _) hb9)
 have F0 := own_thaw HO9.out hgxm ox
 have F1 := own_thaw HO9.out hgxm (ox + 1)
 have F2 := own_thaw HO9.out hgxm (ox + 2)
 have hgx1 := hs9.lt gx hgxm
 have hgxw := (HO9.out.2 gx hgxm).1
 obtain ⟨X1,nx1,cx1,X2,nx2,cx2,fx, _,x0,x1,x2,hax⟩ := Sl.ratAt hs9 (k := 0) rfl
 simp at x0 x1 x2
 have HAX := hid hax
 have q0 : w1.cell? ⟨gl,ol,none⟩ = some (.slice Al 0 cl) := (HB1.out.cell (p := ⟨gl,ol,none⟩) hgl).trans hel
 have q1 : w1.cell? ⟨gp,op,none⟩ = some (.bool r.num.neg) := (HB1.out.cell (p := ⟨gp,op,none⟩) hgp).trans p0
 have q2 : w1.cell? ⟨gp,op + 1,none⟩ = some (.slice P1 np1 cp1) := (HB1.out.cell (p := ⟨gp,op + 1,none⟩) hgp).trans p1
 have q3 : w1.cell? ⟨gp,op + 2,none⟩ = some (.slice P2 np2 cp2) := (HB1.out.cell (p := ⟨gp,op + 2,none⟩) hgp).trans p2
 obtain ⟨k0, _⟩ := box_cell K0.out (j := 0) rfl
 obtain ⟨k1, _⟩ := box_cell K0.out (j := 1) rfl
 simp at k0 k1
 have hsz1 := HB1.out.size
 have hgl1 : gl < w1.heap.size := by omega
 have hgp1 : gp < w1.heap.size := by omega
 clear hs9 ho9 hb9 hax hb9e hc_w1 hf_w1 hel p0 p1 p2
 go_wp2_with fail
 refine wp_loop_rounds 2 ?_
 rw [rounds_succ]
 go_wp2_with fail
 refine wp_loop_rounds 1 ?_
 rw [rounds_succ]
 go_wp2_with fail
 rw [rounds_succ]
 go_wp2_with fail
 refine wp_loop_rounds 2 ?_
 rw [rounds_succ]
 go_wp2_with fail
 obtain ⟨W2,hW2⟩ : ∃ W2,W2 = w1.alloc (.cells #[.bool r.num.neg, .slice P1 np1 cp1, .slice P2 np2 cp2] 32) := ⟨_,rfl⟩
 obtain ⟨gq,hgq⟩ : ∃ gq,w1.heap.size = gq := ⟨_,rfl⟩
 have HB2 := hid (show Below w1.heap.size w1 W2 by rw [hW2]; exact Below.box _)
 have KQ := hid (show W2.heap[gq]? = some (.cells #[.bool r.num.neg, .slice P1 np1 cp1, .slice P2 np2 cp2] 32) by rw [hW2, ← hgq]; exact heap_alloc_new w1 _)
 rw [← hW2,hgq]
 have HGQ := hid hgq
 clear hW2 k0 k1 q0 q1 q2 q3 hgl1 hgp1
 obtain ⟨r0, _⟩ := box_cell KQ.out (j := 0) rfl
 obtain ⟨r1, _⟩ := box_cell KQ.out (j := 1) rfl
 obtain ⟨r2, _⟩ := box_cell KQ.out (j := 2) rfl
 simp at r0 r1 r2
 have hgq2 := lt_of_block KQ.out
 have hgx2 : gx < W2.heap.size := by omega
 have y0 := (HB2.out.cell (p := ⟨gx,ox,none⟩) hgx1).trans x0
 have y1 := (HB2.out.cell (p := ⟨gx,ox + 1,none⟩) hgx1).trans x1
 have y2 := (HB2.out.cell (p := ⟨gx,ox + 2,none⟩) hgx1).trans x2
 have HBW := hid (Below.next HB1.out HB2.out)
 refine wp_region_last (by simp) (by kernel_rfl) (by kernel_rfl) (by kernel_rfl) (by kernel_rfl) ?_
 dsimp only [List.dropLast,List.getLast,List.length]
 iterate 7
  apply walkM_eq
  case h =>
   intro yq zq wq hC hd
   obtain ⟨hcq,hfq⟩ := bcell hC
   simp at hd
   refine ⟨by go_simp; done, ?_⟩
   go_simp
   first | (go_ints; exact rfl) | (go_ints; rw [if_pos (by omega)]; try exact rfl) | exact rfl | (rw [if_pos (by omega)]; try exact rfl)
 refine walkM_call (MP.agg (rdiv y r)) ?_ ?_
 ·intro yq zq wq hC hd
  obtain ⟨hcq,hfq⟩ := bcell hC
  simp at hd
  refine ⟨by go_simp; done, ?_⟩
  apply Exists.intro
  apply Exists.intro
  constructor
  ·go_simp
   exact ⟨rfl,rfl⟩
  ·exact gives_agg (impl_RatDiv _ _ y r _ _ wq ((HAX.out.below HB2.out).below hC) (HAP.out.below (Below.next HBW.out hC)) OKY.out OKR.out H0.out)
 apply walkM_eq
 case h =>
  intro yq zq wq hC hd
  obtain ⟨hcq,hfq⟩ := bcell hC
  simp at hd
  refine ⟨by go_simp; done, ?_⟩
  go_simp
  first | (go_ints; exact rfl) | (go_ints; rw [if_pos (by omega)]; try exact rfl) | exact rfl | (rw [if_pos (by omega)]; try exact rfl)
 intro yq zq wa hC hd hdis0
 have hdis := hid hdis0
 clear hdis0
 simp at hd
 have q7 := hd.2.2.2.2.2.2.2.1
 have q8 := hd.2.2.2.2.2.2.2.2
 have e8 := q8.1.1
 obtain ⟨⟨ha9,hf9⟩,hr9⟩ := q7
 obtain ⟨z,hz⟩ : ∃ z,rdiv y r = z := ⟨_,rfl⟩
 rw [hz] at ha9
 obtain ⟨V1,nV1,cV1,v1',V2,nV2,cV2,v2',e9,hz9, _, _⟩ := TRat.agg ha9
 rw [e9] at ha9
 have hgn : gx ∉ zq 7 := fun h => by have := (hr9 _ h).1; omega
 have hsa := hC.size
 have hgxa : gx < wa.heap.size := by omega
 have a0 := (hC.cell (p := ⟨gx,ox,none⟩) hgx2).trans y0
 have a1 := (hC.cell (p := ⟨gx,ox + 1,none⟩) hgx2).trans y1
 have a2 := (hC.cell (p := ⟨gx,ox + 2,none⟩) hgx2).trans y2
 have b0 := (hC.frozen (p := ⟨gx,ox,none⟩) hgx2).trans ((HB2.out.frozen (p := ⟨gx,ox,none⟩) hgx1).trans F0)
 have b1 := (hC.frozen (p := ⟨gx,ox + 1,none⟩) hgx2).trans ((HB2.out.frozen (p := ⟨gx,ox + 1,none⟩) hgx1).trans F1)
 have b2 := (hC.frozen (p := ⟨gx,ox + 2,none⟩) hgx2).trans ((HB2.out.frozen (p := ⟨gx,ox + 2,none⟩) hgx1).trans F2)
 obtain ⟨W3,hW3⟩ : ∃ W3,W3 = (((wa.setCell ⟨gx,ox,none⟩ (.bool z.num.neg)).setCell ⟨gx,ox + 1,none⟩ (.slice V1 nV1 cV1)).setCell ⟨gx,ox + 2,none⟩ (.slice V2 nV2 cV2)) := ⟨_,rfl⟩
 have HW3 := hid hW3
 have hk3 : ∀ b,b ≠ gx → W3.heap[b]? = wa.heap[b]? := fun b hb => by
  rw [hW3]; exact (Below.heap_setCell _ _ _ b (by simpa using hb)).trans ((Below.heap_setCell _ _ _ b (by simpa using hb)).trans (Below.heap_setCell _ _ _ b (by simpa using hb)))
 obtain ⟨cx0,tx0,ex0⟩ := (HO9.out.2 gx hgxm).2
 have ex1 : ∃ cs t,W3.heap[gx]? = some (.cells cs t (0,0)) := by
  rw [hW3]; exact ⟨_, _,heap_setSelf (heap_setSelf (heap_setSelf (heap_keep' (heap_keep' ex0 HB2.out) hC)))⟩
 have HB3 := hid (show Below w.heap.size w W3 by
  rw [hW3]
  exact (((Below.next HBW.out hC).setCell (p := ⟨gx,ox,none⟩) hgxw _).setCell (p := ⟨gx,ox + 1,none⟩) hgxw _).setCell (p := ⟨gx,ox + 2,none⟩) hgxw _)
 have S3 := hid (show Sl W3 (some ⟨gx,ox,none⟩) 1 c9 [z] (gx :: zq 7) from
  sl_one (ha9.keep (fun b hb => hk3 b (fun e => hgn (e ▸ hb)))) (by obtain ⟨_, _,e⟩ := ex1; exact lt_of_block e) hc9.out (by rw [hW3]; go_simp) (by rw [hW3]; go_simp) (by rw [hW3]; go_simp))
 have O3 := hid (show Own w W3 (gx :: zq 7) from ⟨List.nodup_cons.2 ⟨hgn,hf9.1⟩,fun b hb => by
  rcases List.mem_cons.1 hb with rfl | hb
  ·exact ⟨hgxw,ex1⟩
  ·refine ⟨by have := (hr9 b hb).1; omega, ?_⟩
   obtain ⟨cs,t,e⟩ := hf9.2 b hb
   exact ⟨cs,t,(hk3 b (fun e => hgn (e ▸ hb))).trans e⟩⟩)
 have K3 := hid (show W3.heap[w.heap.size]? = some (.cells #[.slice (some ⟨gl,ol,none⟩) 1 c0, .slice (some ⟨gp,op,none⟩) 1 c1] 178) from (hk3 _ (by have := HN9.out; omega)).trans (heap_keep' (heap_keep' K0.out HB2.out) hC))
 have HZ := hid hz
 generalize zq 7 = z7 at *
 clear hd hdis q8 ha9 hf9 hr9 hz9 hC hW3 hgn hz ex1 ex0 hk3 hgq
 go_upto_region 15 with fail
 rw [HZ.out, ← HW3.out]
 clear a0 a1 a2 b0 b1 b2 y0 y1 y2 x0 x1 x2 F0 F1 F2 r0 r1 r2
 obtain ⟨k0, _⟩ := box_cell K3.out (j := 0) rfl
 obtain ⟨k1, _⟩ := box_cell K3.out (j := 1) rfl
 simp at k0 k1
 have hw3 := lt_of_block K3.out
 go_wp2_with fail
 rw [rounds_succ]
 go_wp2_with fail
 refine wp_loop_rounds 2 ?_
 rw [rounds_succ]
 go_wp2_with fail
 refine wp_loop_rounds 1 ?_
 rw [rounds_succ]
 go_wp2_with fail
 rw [rounds_succ]
 go_wp2_with fail
 refine (impl_ifVector _ 1 c9 [z] _ W3 S3.out (by have := OK.out; rw [HZ.out] at this; simp [this])).mono ?_
 rintro _ w7 ⟨rfl,hb7⟩
 have HB7 := hid hb7
 clear hb7
 go_wp2
 go_ret
 rw [HZ.out]
 exact ⟨_,1,c9, _,rfl,S3.out.below HB7.out,O3.out.below HB7.out,Below.next HB3.out HB7.out⟩
theorem impl_FactorMatrix (v : Value) (q : Option TRat) (s : List Nat) (w : World) (hx : Agg w v (mat1 q) s) (ok : Ok1 q) (hp : ∀ r,q = some r → 0 < numv r) : Calls Tryz.prog 159 #[v] w (GivesFx w q) := by
 cases q with
 | none => exact impl_Factor0 v s w hx
 | some r => exact impl_Factor1 v r s w hx ok (hp r rfl)
theorem impl_solve (v : Value) (q : Option TRat) (xs : List TRat) (s : List Nat) (B : Option Addr) (n d : Nat) (ds : List Nat) (w : World) (hx : Agg w v (fac1 q) s) (hb : Sl w B n d xs ds) (hn : n = len1 q) (okq : Ok1 q) (okx : xs.all ratOkB = true) (ok : (solveL q xs).any denBad = false) :
  Calls Tryz.prog 160 #[v, .slice B n d] w (GivesSl w (solveL q xs)) := by
 cases q with
 | none =>
  obtain rfl : n = 0 := hn
  obtain rfl : xs = [] := List.eq_nil_of_length_eq_zero hb.1
  exact impl_solve0 v s B d ds w hx hb
 | some r =>
  obtain rfl : n = 1 := hn
  obtain ⟨y,rfl⟩ : ∃ y,xs = [y] := by
   have := hb.1
   match xs,this with
   | [y], _ => exact ⟨y,rfl⟩
  refine impl_solve1 v r y s B d ds w hx hb okq.1 (by simpa using okx) (fun h => ?_) (by simpa [solveL] using ok)
  have := okq.2
  apply this
  unfold numv ival
  rw [h]
  simp [val]
set_option maxHeartbeats 4000000 in
theorem impl_SolveMatrix (v : Value) (q : Option TRat) (xs : List TRat) (s : List Nat) (B : Option Addr) (n d : Nat) (ds : List Nat) (w : World) (hx : Agg w v (mat1 q) s) (hb : Sl w B n d xs ds) (hn : n = len1 q) (okq : Ok1 q) (hp : ∀ r,q = some r → 0 < numv r) (okx : xs.all ratOkB = true) (ok : (solveL q xs).any denBad = false) :
  Calls Tryz.prog 118 #[v, .slice B n d] w (GivesSolve w (solveL q xs)) := by
 have HX := hid hx; have HBB := hid hb; have OKQ := hid okq; have HP := hid hp; have OKX := hid okx; have OK := hid ok; have HN := hid hn
 have hnle : n ≤ 1 := by rw [hn]; cases q <;> simp [len1]
 have hnlei : (n : Int) ≤ 1 := by omega
 obtain ⟨A,n0,c,s0,rfl,rfl,h0⟩ := TMatrix.agg hx
 obtain rfl : n = n0 := by rw [← h0.1,hn]; cases q <;> rfl
 clear hx hb h0 okq hp okx ok hn
 go_enter Tryz.func118,Tryz.ntmps118
 go_wp2_with fail
 refine (impl_FactorMatrix _ q _ (w.alloc (.cells #[.slice A n c] 143)) (HX.out.below Below.go) OKQ.out HP.out).mono ?_
 rintro _ w1 ⟨v6,s6,rfl,ha6,hn6,hb6⟩
 obtain ⟨A6,n6,c6,r6,A7,n7,c7,r7,rfl,rfl,hr6,hr7⟩ := TFactor.agg ha6
 obtain ⟨hc_w1,hf_w1⟩ := bcell hb6
 have hz0_w1 : w.heap.size < w1.heap.size := by have := hb6.size; (try simp at this); omega
 have HA6 := hid ha6
 have HB1 := hid (show Below w.heap.size w w1 from Below.go)
 have hz2 : w.heap.size < w1.heap.size + 1 := by omega
 clear ha6 hn6 hr6 hr7 hb6
 go_wp2_with fail
 refine (impl_isVector B n d xs ds (w1.alloc (.cells #[.slice A6 n6 c6, .slice A7 n7 c7] 178)) (HBB.out.below (Below.next HB1.out (Below.box _))) OKX.out).mono ?_
 rintro _ w2 ⟨rfl,hb2⟩
 have HB2 := hid (Below.next (Below.next HB1.out (Below.box _)) hb2)
 have HA2 := hid ((HA6.out.below (Below.box _)).below hb2)
 have K2 := hid (heap_keep' (heap_alloc_new w1 (.cells #[.slice A6 n6 c6, .slice A7 n7 c7] 178)) hb2)
 obtain ⟨k0, _⟩ := box_cell K2.out (j := 0) rfl
 obtain ⟨k1, _⟩ := box_cell K2.out (j := 1) rfl
 simp at k0 k1
 clear hb2 hc_w1 hf_w1
 go_wp2_with fail
 refine (impl_solve _ q xs _ B n d ds w2 HA2.out (HBB.out.below HB2.out) HN.out OKQ.out OKX.out OK.out).mono ?_
 rintro _ w3 ⟨A9,n9,c9,b9,rfl,hs9,ho9,hb9⟩
 obtain rfl : n = n9 := by
  have h1 := hs9.1; have h2 := HBB.out.1; have h3 := HN.out
  rw [← h1]
  cases q with
  | none => simpa [solveL,len1] using h3
  | some r => match xs,h2 with
   | y :: ys,h2 => simpa [solveL,len1] using h3
   | [],h2 => rw [h3] at h2; simp [len1] at h2
 have HS9 := hid hs9; have HO9 := hid (ho9.older (w0 := w) HB2.out.size); have HB3 := hid (Below.next HB2.out hb9)
 clear hs9 ho9 hb9 k0 k1
 go_wp2
 go_ret2
 exact ⟨A9,n,c9,b9,rfl,HS9.out,HO9.out,HB3.out⟩
end Go.Proofs.YtpfipnankjeokaaGreat.X
namespace Go.Proofs.YtpfipnankjeokaaGreat.X
open Go.RowKit Go.XB Go.XN
def spreadV (u : List TRat) (i : Int) : TRat := bif decide (0 ≤ i) then u.getD i.toNat zeroR else rint 0
def spreadL (m : TMesh) (u : List TRat) : List TRat := (rowsL m).map (spreadV u)
def innerV (u : List TRat) (i : Int) : TRat := u.getD i.toNat zeroR
def innerP (m : TMesh) (u : List TRat) : List TRat := (ptsOfL m false).map (innerV u)
attribute [local go_sem] fillBy Go.XB.opAt deps depOf Region.wanted yielded
attribute [local simp] deps depOf MP.eq MP.agg MP.aggS MP.sl MP.slbox Facts
set_option maxHeartbeats 8000000 in
set_option maxRecDepth 10000 in
theorem impl_inner (v : Value) (m : TMesh) (b : List Nat) (B : Option Addr) (nu d : Nat) (us : List TRat) (ds : List Nat) (w : World) (hx : Agg w v m b) (h40 : m.points.length ≤ 40) (h48 : m.triangles.length ≤ 48) (hes : EdgeIn m) (hu : Sl w B nu d us ds) (hn : nu = m.points.length) (hl : ∀ x ∈ us,Lim24 x) :
  Calls Tryz.prog 111 #[v, .slice B nu d] w (GivesSl w (innerP m us)) := by
 have HX := hid hx; have H40 := hid h40; have H48 := hid h48; have HES := hid hes; have HU := hid hu; have HLM := hid hl
 obtain ⟨A0,n0,c0,s0,A1,n1,c1,s1,rfl,rfl,hs0,hs1⟩ := TMesh.agg hx
 have hnu40 : nu ≤ 40 := by rw [hn]; exact h40
 have hnu40i : (nu : Int) ≤ 40 := by omega
 obtain ⟨ps,hps⟩ : ∃ ps,ptsOfL m false = ps := ⟨_,rfl⟩
 have HPS := hid hps
 have PM := hid (show ∀ x ∈ ps,0 ≤ x ∧ x < nu by rw [← hps,hn]; exact ptsOfL_mem)
 have hpl : ps.length ≤ 40 := by rw [← hps]; exact Nat.le_trans (ptsOfL_len m false) h40
 have E := hid (show innerP m us = ps.map (innerV us) by rw [innerP,hps])
 obtain ⟨i0,hi,hz0,hz1,hz2⟩ := info_parts infoRt
 clear hx h40 h48 hes hu hn hl hs0 hs1 hps
 go_enter Tryz.func111,Tryz.ntmps111
 go_wp2_with fail
 have P0 := hid (Pend.start (α := TRat) (e := 32) (Below.box (w := w) (.cells #[.slice A0 n0 c0, .slice A1 n1 c1] 26)))
 refine (impl_pointsOf _ m _ false ((w.alloc (.cells #[.slice A0 n0 c0, .slice A1 n1 c1] 26)).alloc (.cells #[] 32)) (HX.out.below Below.go) H40.out H48.out HES.out).mono ?_
 rw [HPS.out]
 rintro _ w2 ⟨E2,nf,cE,eb,rfl,hse,hoe,hb2⟩
 have HP2 := hid (P0.out.below hb2)
 have HSE := hid hse
 have hnf : nf ≤ 40 := by rw [← hse.1]; omega
 have hnfi : (nf : Int) ≤ 40 := by omega
 have HNF := hid hse.1
 have HEB := hid (show w.heap.size + 1 ∉ eb from fun h => by have := (hoe.2 _ h).1; simp at this; omega)
 clear hse hoe hb2 P0
 go_wp2_with fail
 have HP0 := hid (show Pend w (w.alloc (.cells #[.slice A0 n0 c0, .slice A1 n1 c1] 26)) 32 w2 (w.heap.size + 1) 0 0 ((ps.map (innerV us)).take 0) by have := HP2.out; rwa [World.size_alloc] at this)
 clear HP2
 go_loopg [5,12] nf (fun g s3 s wr => ∃ (i gB cap : Nat),i + g = nf ∧ s = .int .i64 i ∧ s3 = .slice (some ⟨gB,0,none⟩) i cap ∧ Hid (Pend w (w.alloc (.cells #[.slice A0 n0 c0, .slice A1 n1 c1] 26)) 32 wr gB i cap ((ps.map (innerV us)).take i)) ∧ Hid (Sl wr E2 nf cE ps eb ∧ gB ∉ eb))
 case atStart => exact ⟨0,w.heap.size + 1,0,by omega,rfl,rfl,HP0.out,HSE.out,HEB.out⟩
 case round =>
  clear HP0 HSE HEB
  obtain ⟨i,gB,cap,hi3,rfl,rfl,HP,HE⟩ := hrel
  rename World => wr
  have HBW := hid HP.out.bw
  rcases Nat.lt_or_ge i nf with hin | hin
  ·have hii : (i : Int) < nf := by omega
   obtain ⟨g,rfl⟩ : ∃ g,gk = g + 1 := ⟨gk - 1,by omega⟩
   have hi' := hid (show i + 1 + g = nf by omega)
   have hi1 : i + 1 ≤ nf := hin
   have C3 := hid (show i + 1 ≤ maxLen by unfold maxLen; omega)
   have C4 := hid (show (i + 1) * 56 ≤ 140737488355328 by omega)
   obtain ⟨be,oe,q,rfl,hbl,hx1,hi64,e0⟩ := Sl.getInt HE.out.1 hin
   obtain ⟨hq0,hqn⟩ := PM.out q (List.mem_of_getElem? hx1)
   obtain ⟨k,rfl⟩ : ∃ k : Nat,q = k := ⟨q.toNat,by omega⟩
   have hkn : k < nu := by omega
   obtain ⟨bf,of,x,A3,n3,c3,s3,A4,n4,c4,s4,rfl,hblf,hxf,f0,f1,f2,hag⟩ := TRat.elemA (HU.out.below HBW.out) hkn
   have HAG := hid hag
   have LX := hid (HLM.out x (List.mem_of_getElem? hxf))
   have NX := hid (show (ps.map (innerV us)).take (i + 1) = (ps.map (innerV us)).take i ++ [x] from take_step (by rw [List.getElem?_map,hx1]; simp [innerV,hxf,List.getD]))
   clear hi3 hin hx1 hi64 hag hxf
   go_wp2_with fail
   refine (impl_copyRat _ x _ wr HAG.out (Nat.le_trans LX.out.1 (by decide)) (Nat.le_trans LX.out.2 (by decide))).mono ?_
   rintro _ wa ⟨va,sa,rfl,ha,ho,hba⟩
   obtain ⟨G1,nG1,cG1,g1,G2,nG2,cG2,g2,rfl,z15, _, _⟩ := TRat.agg ha
   have AT := hid (rat_dat (ha.below (Below.box (.cells #[.bool x.num.neg, .slice G1 nG1 cG1, .slice G2 nG2 cG2] 32))))
   have HF := hid ((ho.below (Below.box (.cells #[.bool x.num.neg, .slice G1 nG1 cG1, .slice G2 nG2 cG2] 32))).free)
   have HR := hid (show ∀ b ∈ sa,wr.heap.size ≤ b from fun b hb => (ho.2 b hb).1)
   have HBa := hid (show Below wr.heap.size wr (wa.alloc (.cells #[.bool x.num.neg, .slice G1 nG1 cG1, .slice G2 nG2 cG2] 32)) from Below.next hba (Below.box _))
   clear ha ho z15 hba
   go_wp2_with (at_builtin; refine wpList_pend rfl _ _ 36 rfl 32 i0 (.agg #[.bool false, .slice none 0 0, .slice none 0 0]) 56 Tryz.underlying36 hi hz0 hz1 hz2 rfl HP.out HBa.out (by go_simp; done) ⟨wa.heap.size,0,none⟩ 1 [.bool x.num.neg, .slice G1 nG1 cG1, .slice G2 nG2 cG2] x sa (by go_simp; done) (block_cells (heap_alloc_new wa _)) AT.out HF.out HR.out C3.out C4.out ?_; intro g' cap' w8 hp' hgrow' hor')
   have HP8 := hid (show Pend w _ 32 w8 g' (i + 1) cap' ((ps.map (innerV us)).take (i + 1)) by rw [NX.out]; exact hp')
   have HE8 := hid (Sl.pushed HE.out.1 HBa.out hgrow' hor' HE.out.2)
   clear hp' hgrow' hor' AT HF HR HP HE
   go_wp2_with fail
   go_roundg g
   case measure => omega
   case rel => exact ⟨i + 1,g',cap',hi'.out,by go_num,rfl,HP8,HE8⟩
  ·obtain rfl : i = nf := by omega
   have hii : ¬ ((i : Int) < i) := by omega
   clear hi3 hin
   go_wp2
   go_ret
   rw [E.out]
   have := HP.out.done
   rwa [List.take_of_length_le (by rw [List.length_map,HNF.out]; exact Nat.le_refl _)] at this
set_option maxHeartbeats 8000000 in
set_option maxRecDepth 10000 in
theorem impl_spread (v : Value) (m : TMesh) (b : List Nat) (B : Option Addr) (nu d : Nat) (us : List TRat) (ds : List Nat) (w : World) (hx : Agg w v m b) (h40 : m.points.length ≤ 40) (h48 : m.triangles.length ≤ 48) (hes : EdgeIn m) (hu : Sl w B nu d us ds) (hn : nu = (ptsOfL m false).length) (hl : ∀ x ∈ us,Lim24 x) :
  Calls Tryz.prog 119 #[v, .slice B nu d] w (GivesSl w (spreadL m us)) := by
 have HX := hid hx; have H40 := hid h40; have H48 := hid h48; have HES := hid hes; have HU := hid hu; have HLM := hid hl
 obtain ⟨A0,n0,c0,s0,A1,n1,c1,s1,rfl,rfl,hs0,hs1⟩ := TMesh.agg hx
 have hn40 : n0 ≤ 40 := by rw [← hs0.1]; exact h40
 have hn40i : (n0 : Int) ≤ 40 := by omega
 have hnu40 : nu ≤ 40 := by rw [hn]; exact Nat.le_trans (ptsOfL_len m false) h40
 have hnu40i : (nu : Int) ≤ 40 := by omega
 obtain ⟨rows,hrows⟩ : ∃ rows,rowsL m = rows := ⟨_,rfl⟩
 have HRW := hid hrows
 have HRL := hid (show rows.length = n0 by rw [← hrows,rowsL_len,hs0.1])
 have HRM := hid (show ∀ x ∈ rows, -1 ≤ x ∧ x < nu by rw [← hrows,hn]; exact rowsL_mem)
 have E := hid (show spreadL m us = rows.map (spreadV us) by rw [spreadL,hrows])
 obtain ⟨i0,hi,hz0,hz1,hz2⟩ := info_parts infoRt
 clear hx h40 h48 hes hu hl hs0 hs1 hrows hn
 go_enter Tryz.func119,Tryz.ntmps119
 go_wp2_with fail
 have C := impl_rowsOf _ m _ (w.alloc (.cells #[.slice A0 n0 c0, .slice A1 n1 c1] 26)) (HX.out.below Below.go) H40.out H48.out HES.out
 rw [HRW.out] at C
 refine C.mono ?_
 clear C
 rintro _ w1 ⟨gr,nr,rbs,rfl,hsr,hor,hb1⟩
 obtain rfl : n0 = nr := by rw [← hsr.1]; exact HRL.out.symm
 have HSR := hid (hsr.below (Below.box (.cells #[] 32)))
 have HB1 := hid (show Below w.heap.size w w1 from Below.go)
 have HP0 := hid (show Pend w w1 32 (w1.alloc (.cells #[] 32)) w1.heap.size 0 0 ((rows.map (spreadV us)).take 0) from Pend.start HB1.out)
 have HEB := hid (show w1.heap.size ∉ rbs from fun h => by have := hsr.lt _ h; omega)
 clear hsr hor hb1
 go_wp2_with fail
 go_loopg [7,19] n0 (fun g s3 s wr => ∃ (i gB cap : Nat),i + g = n0 ∧ s = .int .i64 i ∧ s3 = .slice (some ⟨gB,0,none⟩) i cap ∧ Hid (Pend w w1 32 wr gB i cap ((rows.map (spreadV us)).take i)) ∧ Hid (Sl wr (some ⟨gr,0,none⟩) n0 n0 rows rbs ∧ gB ∉ rbs))
 case atStart => exact ⟨0,w1.heap.size,0,by omega,rfl,rfl,HP0.out,HSR.out,HEB.out⟩
 case round =>
  clear HP0 HSR HEB
  obtain ⟨i,gB,cap,hi3,rfl,rfl,HP,HE⟩ := hrel
  rename World => wr
  have HBW := hid HP.out.bw
  rcases Nat.lt_or_ge i n0 with hin | hin
  ·have hii : (i : Int) < n0 := by omega
   obtain ⟨g,rfl⟩ : ∃ g,gk = g + 1 := ⟨gk - 1,by omega⟩
   have hi' := hid (show i + 1 + g = n0 by omega)
   have hi1 : i + 1 ≤ n0 := hin
   have C3 := hid (show i + 1 ≤ maxLen by unfold maxLen; omega)
   have C4 := hid (show (i + 1) * 56 ≤ 140737488355328 by omega)
   obtain ⟨q,hq⟩ : ∃ q,rows[i]? = some q := ⟨_,List.getElem?_eq_getElem (by rw [HRL.out]; exact hin)⟩
   obtain ⟨e0,hbl⟩ := Sl.intAt HE.out.1 hq
   obtain ⟨hq0,hqn⟩ := HRM.out q (List.mem_of_getElem? hq)
   have HQ := hid hq
   clear hi3 hin hq
   go_wp2_with fail
   refine (impl_RatFromInt 0 wr (by constructor <;> decide)).mono ?_
   rintro _ wa ⟨va,sa,rfl,ha,ho,hba⟩
   obtain ⟨G1,nG1,cG1,g1,G2,nG2,cG2,g2,rfl,z15, _, _⟩ := TRat.agg ha
   obtain ⟨W2,hW2⟩ : ∃ W2,W2 = wa.alloc (.cells #[.bool (rint 0).num.neg, .slice G1 nG1 cG1, .slice G2 nG2 cG2] 32) := ⟨_,rfl⟩
   obtain ⟨g8,hg8⟩ : ∃ g8,wa.heap.size = g8 := ⟨_,rfl⟩
   have HB2 := hid (show Below wr.heap.size wr W2 by rw [hW2]; exact Below.next hba (Below.box _))
   have K8 := hid (show W2.heap[g8]? = some (.cells #[.bool (rint 0).num.neg, .slice G1 nG1 cG1, .slice G2 nG2 cG2] 32) by rw [hW2, ← hg8]; exact heap_alloc_new wa _)
   have AG := hid (show Agg W2 (.agg #[.bool (rint 0).num.neg, .slice G1 nG1 cG1, .slice G2 nG2 cG2]) (rint 0) sa by rw [hW2]; exact ha.below (Below.box _))
   have OW := hid (show Own wr W2 sa by rw [hW2]; exact ho.below (Below.box _))
   have hg81 : wr.heap.size ≤ g8 := by rw [← hg8]; exact hba.size
   have HW2 := hid hW2; have HG8 := hid hg8
   clear ha ho hba z15 hW2 hg8
   go_upto_region 7 with fail
   rw [← HW2.out,HG8.out]
   have hgl8 := lt_of_block K8.out
   by_cases hqn0 : q < 0
   ·obtain rfl : q = -1 := by omega
    have NX := hid (show (rows.map (spreadV us)).take (i + 1) = (rows.map (spreadV us)).take i ++ [rint 0] from take_step (by rw [List.getElem?_map,HQ.out]; rfl))
    obtain ⟨x0, _⟩ := box_cell K8.out (j := 0) rfl
    obtain ⟨x1, _⟩ := box_cell K8.out (j := 1) rfl
    obtain ⟨x2, _⟩ := box_cell K8.out (j := 2) rfl
    simp at x0 x1 x2
    have AT := hid (rat_dat (AG.out.below (Below.box (.cells #[.bool (rint 0).num.neg, .slice G1 nG1 cG1, .slice G2 nG2 cG2] 32))))
    have HF := hid ((OW.out.below (Below.box (.cells #[.bool (rint 0).num.neg, .slice G1 nG1 cG1, .slice G2 nG2 cG2] 32))).free)
    have HR := hid (show ∀ b ∈ sa,wr.heap.size ≤ b from fun b hb => (OW.out.2 b hb).1)
    have HBa := hid (show Below wr.heap.size wr (W2.alloc (.cells #[.bool (rint 0).num.neg, .slice G1 nG1 cG1, .slice G2 nG2 cG2] 32)) from Below.next HB2.out (Below.box _))
    clear hqn0
    go_wp2_with (at_builtin; refine wpList_pend rfl _ _ 36 rfl 32 i0 (.agg #[.bool false, .slice none 0 0, .slice none 0 0]) 56 Tryz.underlying36 hi hz0 hz1 hz2 rfl HP.out HBa.out (by go_simp; done) ⟨W2.heap.size,0,none⟩ 1 [.bool (rint 0).num.neg, .slice G1 nG1 cG1, .slice G2 nG2 cG2] (rint 0) sa (by go_simp; done) (block_cells (heap_alloc_new W2 _)) AT.out HF.out HR.out C3.out C4.out ?_; intro g' cap' w8 hp' hgrow' hor')
    have HP8 := hid (show Pend w _ 32 w8 g' (i + 1) cap' ((rows.map (spreadV us)).take (i + 1)) by rw [NX.out]; exact hp')
    have HE8 := hid (Sl.pushed HE.out.1 HBa.out hgrow' hor' HE.out.2)
    clear hp' hgrow' hor' AT HF HR HP HE
    go_wp2_with fail
    go_roundg g
    case measure => omega
    case rel => exact ⟨i + 1,g',cap',hi'.out,by go_num,rfl,HP8,HE8⟩
   ·obtain ⟨k,rfl⟩ : ∃ k : Nat,q = k := ⟨q.toNat,by omega⟩
    have hkn : k < nu := by omega
    obtain ⟨bf,of,x,A3,n3,c3,s3,A4,n4,c4,s4,rfl,hblf,hxf,f0,f1,f2,hag⟩ := TRat.elemA (HU.out.below (Below.next HBW.out HB2.out)) hkn
    have HAG := hid hag
    have LX := hid (HLM.out x (List.mem_of_getElem? hxf))
    have NX := hid (show (rows.map (spreadV us)).take (i + 1) = (rows.map (spreadV us)).take i ++ [x] from take_step (by rw [List.getElem?_map,HQ.out]; simp [spreadV,hxf,List.getD]))
    obtain ⟨x0,x0'⟩ := box_cell K8.out (j := 0) rfl
    obtain ⟨x1,x1'⟩ := box_cell K8.out (j := 1) rfl
    obtain ⟨x2,x2'⟩ := box_cell K8.out (j := 2) rfl
    simp at x0 x1 x2
    clear hag hxf hqn0 hq0
    go_wp2_with fail
    refine (impl_copyRat _ x _ W2 HAG.out (Nat.le_trans LX.out.1 (by decide)) (Nat.le_trans LX.out.2 (by decide))).mono ?_
    rintro _ wb ⟨va,sb,rfl,ha,ho,hba⟩
    obtain ⟨V1,nV1,cV1,v1,V2,nV2,cV2,v2,rfl,z15, _, _⟩ := TRat.agg ha
    obtain ⟨W3,hW3⟩ : ∃ W3,W3 = (((wb.setCell ⟨g8,0,none⟩ (.bool x.num.neg)).setCell ⟨g8,1,none⟩ (.slice V1 nV1 cV1)).setCell ⟨g8,2,none⟩ (.slice V2 nV2 cV2)) := ⟨_,rfl⟩
    have HW3 := hid hW3
    have hgn : g8 ∉ sb := fun h => by have := (ho.2 _ h).1; omega
    have hk3 : ∀ b,b ≠ g8 → W3.heap[b]? = wb.heap[b]? := fun b hb => by rw [hW3]; exact heap_set3 b hb
    have HB3 := hid (show Below wr.heap.size wr W3 by
     rw [hW3]
     exact (((Below.next HB2.out hba).setCell (p := ⟨g8,0,none⟩) hg81 _).setCell (p := ⟨g8,1,none⟩) hg81 _).setCell (p := ⟨g8,2,none⟩) hg81 _)
    have K83 := hid (show W3.heap[g8]? = some (.cells #[.bool x.num.neg, .slice V1 nV1 cV1, .slice V2 nV2 cV2] 32) by rw [hW3]; exact heap_setSelf (heap_setSelf (heap_setSelf (heap_keep' K8.out hba))))
    have AG3 := hid (show Agg W3 (.agg #[.bool x.num.neg, .slice V1 nV1 cV1, .slice V2 nV2 cV2]) x sb from ha.keep (fun b hb => hk3 b (fun e => hgn (e ▸ hb))))
    have FR3 := hid (show Free W3 sb from ⟨ho.1,fun b hb => by
     obtain ⟨cs,t,e⟩ := (ho.2 b hb).2
     exact ⟨cs,t,(hk3 b (fun e' => hgn (e' ▸ hb))).trans e⟩⟩)
    have HR := hid (show ∀ b ∈ sb,wr.heap.size ≤ b from fun b hb => by have := (ho.2 b hb).1; omega)
    have hszb := hba.size
    have hg8b : g8 < wb.heap.size := by omega
    have y0 := (hba.cell (p := ⟨g8,0,none⟩) hgl8).trans x0
    have y1 := (hba.cell (p := ⟨g8,1,none⟩) hgl8).trans x1
    have y2 := (hba.cell (p := ⟨g8,2,none⟩) hgl8).trans x2
    have y0' := (hba.frozen (p := ⟨g8,0,none⟩) hgl8).trans x0'
    have y1' := (hba.frozen (p := ⟨g8,1,none⟩) hgl8).trans x1'
    have y2' := (hba.frozen (p := ⟨g8,2,none⟩) hgl8).trans x2'
    clear ha ho hba z15 hW3 hgn hk3 x0 x1 x2 x0' x1' x2'
    go_upto_region 9 with fail
    rw [← HW3.out]
    clear y0 y1 y2 y0' y1' y2' f0 f1 f2 hblf hg8b
    obtain ⟨x0, _⟩ := box_cell K83.out (j := 0) rfl
    obtain ⟨x1, _⟩ := box_cell K83.out (j := 1) rfl
    obtain ⟨x2, _⟩ := box_cell K83.out (j := 2) rfl
    simp at x0 x1 x2
    have AT := hid (rat_dat (AG3.out.below (Below.box (.cells #[.bool x.num.neg, .slice V1 nV1 cV1, .slice V2 nV2 cV2] 32))))
    have HF := hid (FR3.out.below (Below.box (w := W3) (.cells #[.bool x.num.neg, .slice V1 nV1 cV1, .slice V2 nV2 cV2] 32)))
    have HBa := hid (show Below wr.heap.size wr (W3.alloc (.cells #[.bool x.num.neg, .slice V1 nV1 cV1, .slice V2 nV2 cV2] 32)) from Below.next HB3.out (Below.box _))
    go_wp2_with (at_builtin; refine wpList_pend rfl _ _ 36 rfl 32 i0 (.agg #[.bool false, .slice none 0 0, .slice none 0 0]) 56 Tryz.underlying36 hi hz0 hz1 hz2 rfl HP.out HBa.out (by go_simp; done) ⟨W3.heap.size,0,none⟩ 1 [.bool x.num.neg, .slice V1 nV1 cV1, .slice V2 nV2 cV2] x sb (by go_simp; done) (block_cells (heap_alloc_new W3 _)) AT.out HF.out HR.out C3.out C4.out ?_; intro g' cap' w8 hp' hgrow' hor')
    have HP8 := hid (show Pend w _ 32 w8 g' (i + 1) cap' ((rows.map (spreadV us)).take (i + 1)) by rw [NX.out]; exact hp')
    have HE8 := hid (Sl.pushed HE.out.1 HBa.out hgrow' hor' HE.out.2)
    clear hp' hgrow' hor' AT HF HR HP HE
    go_wp2_with fail
    go_roundg g
    case measure => omega
    case rel => exact ⟨i + 1,g',cap',hi'.out,by go_num,rfl,HP8,HE8⟩
  ·obtain rfl : i = n0 := by omega
   have hii : ¬ ((i : Int) < i) := by omega
   clear hi3 hin
   go_wp2
   go_ret
   rw [E.out]
   have := HP.out.done
   rwa [List.take_of_length_le (by rw [List.length_map,HRL.out]; exact Nat.le_refl _)] at this
end Go.Proofs.YtpfipnankjeokaaGreat.X
namespace Go.Proofs.YtpfipnankjeokaaGreat.X
open Go.RowKit Go.XB Go.XN
def stepL (p : TProblem) (om os : Option TRat) (tau : TRat) (us : List TRat) : List TRat :=
 spreadL p.mesh (solveL (comb1 (rint 1) tau om os) (combL (applyL om (innerP p.mesh us)) tau (loadL p)))
structure HeatD (p : TProblem) (xs ys : List Int) (om os : Option TRat) (tau : TRat) : Prop where
 pr : ProbI p xs ys
 md : MeshD p.mesh xs ys
 hm : asmL p.mesh (massLoc p.mesh) = list1 om
 hs : asmL p.mesh (stiffLoc p) = list1 os
 nm : (ptsOfL p.mesh false).length = len1 om
 ns : len1 os = len1 om
 okm : Ok1 om
 oks : Ok1 os
 okc : Ok1 (comb1 (rint 1) tau om os)
 pos : ∀ r,comb1 (rint 1) tau om os = some r → 0 < numv r
 ld : (loadL p).any denBad = false
 ll : (loadL p).length = len1 om
 tok : ratOkB tau = true
 t1 : rsign tau = 1
structure HeatU (p : TProblem) (om os : Option TRat) (tau : TRat) (us : List TRat) : Prop where
 len : us.length = p.mesh.points.length
 ok : us.all ratOkB = true
 ap : (applyL om (innerP p.mesh us)).any denBad = false
 rt : (combL (applyL om (innerP p.mesh us)) tau (loadL p)).all ratOkB = true
 so : (solveL (comb1 (rint 1) tau om os) (combL (applyL om (innerP p.mesh us)) tau (loadL p))).all ratOkB = true
def MP.aggW {α : Type} [Dat α] (x : α) : MP := ⟨fun v bs w => Agg w v x bs,fun _ _ _ _ hb h => h.below hb⟩
def MP.tupW {α : Type} [Dat α] (x : α) : MP := ⟨fun v bs w => ∃ u,v = .tuple #[u, .bool true] ∧ Agg w u x bs,fun _ _ _ _ hb ⟨u,e,h⟩ => ⟨u,e,h.below hb⟩⟩
def MP.tupA (y : Value) : MP := ⟨fun v bs _ => bs = [] ∧ v = y ∧ ∃ u,v = .tuple #[u, .bool true],fun _ _ _ _ _ h => h⟩
def MP.tup1 (y : Value) : MP := ⟨fun v bs _ => bs = [] ∧ y = .tuple #[v, .bool true],fun _ _ _ _ _ h => h⟩
theorem gives_mx {f : FuncId} {args : Array Value} {w : World} {o : Option TRat} (h : Calls Tryz.prog f args w (GivesMx w o)) :
  Calls Tryz.prog f args w fun e w' => ∃ u,e = .returned u ∧ Below w.heap.size w w' ∧ ∃ bs,(MP.tupW (mat1 o)).p u bs w' ∧ ∀ b ∈ bs,w.heap.size ≤ b ∧ b < w'.heap.size :=
 h.mono fun _ _ ⟨v,s,he,ha,hn,hb⟩ => ⟨_,he,hb,s,⟨v,rfl,ha⟩,fun b hb => ⟨hn b hb,ha.lt b hb⟩⟩
theorem gives_ma {f : FuncId} {args : Array Value} {w : World} {o : Option TRat} (h : Calls Tryz.prog f args w (GivesMa w o)) :
  Calls Tryz.prog f args w fun e w' => ∃ u,e = .returned u ∧ Below w.heap.size w w' ∧ ∃ bs,(MP.aggW (mat1 o)).p u bs w' ∧ ∀ b ∈ bs,w.heap.size ≤ b ∧ b < w'.heap.size :=
 h.mono fun _ _ ⟨v,s,he,ha,hn,hb⟩ => ⟨v,he,hb,s,ha,fun b hb => ⟨hn b hb,ha.lt b hb⟩⟩
theorem comb1_len {r s : TRat} {a b : Option TRat} (h : len1 b = len1 a) : len1 (comb1 r s a b) = len1 a := by
 cases a <;> cases b <;> simp_all [len1,comb1]
theorem impl_Combine (vr vs va vb : Value) (r s : TRat) (qa qb : Option TRat) (br bs sa sb : List Nat) (w : World) (hr : Agg w vr r br) (hs : Agg w vs s bs) (ha : Agg w va (mat1 qa) sa) (hb : Agg w vb (mat1 qb) sb) (okr : ratOkB r = true) (oks : ratOkB s = true) (oka : Ok1 qa) (okb : Ok1 qb) (hl : len1 qb = len1 qa) (ok : Ok1 (comb1 r s qa qb)) :
  Calls Tryz.prog 114 #[vr,va,vs,vb] w (GivesMx w (comb1 r s qa qb)) := by
 cases qa with
 | none =>
  cases qb with
  | none => exact impl_Combine0 vr vs va vb r s br bs sa sb w hr hs ha hb okr oks
  | some b => simp [len1] at hl
 | some a =>
  cases qb with
  | none => simp [len1] at hl
  | some b => exact impl_Combine1 vr vs va vb r s a b br bs sa sb w hr hs ha hb okr oks oka okb ok
theorem applyL_len {o : Option TRat} {xs : List TRat} (h : xs.length = len1 o) : (applyL o xs).length = len1 o := by
 cases o with
 | none => rfl
 | some r => match xs,h with
  | x :: _, _ => rfl
theorem rint1_ok : ratOkB (rint 1) = true := by decide
attribute [local go_sem] fillBy Go.XB.opAt deps depOf Region.wanted yielded
attribute [local simp] deps depOf MP.eq MP.agg MP.aggS MP.aggW MP.tupW MP.tupA MP.tup1 MP.sl MP.slbox Facts
set_option maxHeartbeats 8000000 in
set_option maxRecDepth 10000 in
theorem impl_heatStep (v : Value) (p : TProblem) (b : List Nat) (xs ys : List Int) (B : Option Addr) (n d : Nat) (us : List TRat) (ds : List Nat) (vt : Value) (tau : TRat) (bt : List Nat) (om os : Option TRat) (w : World) (hx : Agg w v p b) (hD : HeatD p xs ys om os tau) (hU : HeatU p om os tau us) (hu : Sl w B n d us ds) (ht : Agg w vt tau bt) :
  Calls Tryz.prog 68 #[v, .slice B n d,vt] w (GivesSolve w (stepL p om os tau us)) := by
 have HX := hid hx; have HD := hid hD; have HU := hid hU; have HUS := hid hu; have HT := hid ht
 obtain ⟨A0,n0,c0,s0,A1,n1,c1,s1,A2,n2,c2,s2,A3,n3,c3,s3,rfl,rfl,hs0,hs1,hs2,hs3⟩ := TProblem.agg hx
 have HMA := hid (TMesh.mkAgg (x := p.mesh) hs0 hs1)
 obtain ⟨T1,nT1,cT1,t1,T2,nT2,cT2,t2,rfl,rfl, _, _⟩ := TRat.agg ht
 have LU := hid (lim24_all hU.ok)
 have hnn := hid (show n = p.mesh.points.length by rw [← hu.1]; exact hU.len)
 clear hx hD hU hu ht hs0 hs1 hs2 hs3
 obtain ⟨w1,hw1⟩ : ∃ w1,w1 = (w.alloc (.cells #[.slice A0 n0 c0, .slice A1 n1 c1, .slice A2 n2 c2, .slice A3 n3 c3] 51)).alloc (.cells #[.bool tau.num.neg, .slice T1 nT1 cT1, .slice T2 nT2 cT2] 32) := ⟨_,rfl⟩
 have HW1 := hid hw1
 have HB1 := hid (show Below w.heap.size w w1 by rw [hw1]; exact allocs_below [_, _] w)
 have K0 := hid (show w1.heap[w.heap.size]? = some (.cells #[.slice A0 n0 c0, .slice A1 n1 c1, .slice A2 n2 c2, .slice A3 n3 c3] 51) by rw [hw1]; exact allocs_heap [_, _] w 0 _ rfl)
 have K1 := hid (show w1.heap[w.heap.size + 1]? = some (.cells #[.bool tau.num.neg, .slice T1 nT1 cT1, .slice T2 nT2 cT2] 32) by rw [hw1]; exact allocs_heap [_, _] w 1 _ rfl)
 have hz1 := lt_of_block K1.out
 have hz0 : w.heap.size < w1.heap.size := by omega
 clear hw1
 go_enter Tryz.func68,Tryz.ntmps68
 go_upto_region 1 with fail
 rw [← HW1.out]
 obtain ⟨k0, _⟩ := box_cell K0.out (j := 0) rfl
 obtain ⟨k1, _⟩ := box_cell K0.out (j := 1) rfl
 simp at k0 k1
 go_wp2_with fail
 refine (impl_inner _ p.mesh _ B n d us ds w1 (HMA.out.below HB1.out) HD.out.md.mesh.n40 HD.out.md.mesh.t48 HD.out.md.es (HUS.out.below HB1.out) hnn.out LU.out).mono ?_
 rintro _ w2 ⟨X0,nx,cx,xb,rfl,hsx,hox,hb2⟩
 have HSX := hid hsx
 have HB2 := hid hb2
 have HBW2 := hid (Below.next HB1.out hb2)
 have NX := hid (show nx = len1 om by rw [← hsx.1,innerP,List.length_map]; exact HD.out.nm)
 have hs2 := hb2.size
 have hz02 : w.heap.size < w2.heap.size := by omega
 have hz12 : w.heap.size + 1 < w2.heap.size := by omega
 clear hsx hox hb2 k0 k1
 obtain ⟨k0, _⟩ := box_cell (heap_keep' K0.out HB2.out) (j := 0) rfl
 obtain ⟨k1, _⟩ := box_cell (heap_keep' K0.out HB2.out) (j := 1) rfl
 obtain ⟨k2, _⟩ := box_cell (heap_keep' K0.out HB2.out) (j := 2) rfl
 obtain ⟨k3, _⟩ := box_cell (heap_keep' K0.out HB2.out) (j := 3) rfl
 simp at k0 k1 k2 k3
 go_wp2_with fail
 refine wp_region_line 6 (by kernel_rfl) (by kernel_rfl) (by kernel_rfl) (by kernel_rfl) (by kernel_rfl) ?_
 simp only [List.take_succ_cons,List.take_zero,List.drop_succ_cons,List.drop_zero]
 iterate 2
  apply walkM_eq
  case h =>
   intro yq zq wq hC hd
   obtain ⟨hcq,hfq⟩ := bcell hC
   simp at hd
   refine ⟨by go_simp; done, ?_⟩
   go_simp
   first | (go_ints; exact rfl) | (go_ints; rw [if_pos (by omega)]; try exact rfl) | exact rfl | (rw [if_pos (by omega)]; try exact rfl)
 refine walkM_call (MP.aggW (mat1 om)) ?_ ?_
 ·intro yq zq wq hC hd
  obtain ⟨hcq,hfq⟩ := bcell hC
  simp at hd
  refine ⟨by go_simp; done, ?_⟩
  apply Exists.intro
  apply Exists.intro
  constructor
  ·go_simp
   exact ⟨rfl,rfl⟩
  ·exact gives_ma (impl_MassOf _ p.mesh _ xs ys om wq (HMA.out.below (Below.next HBW2.out hC)) HD.out.md HD.out.hm HD.out.okm)
 apply walkM_eq
 case h =>
  intro yq zq wq hC hd
  obtain ⟨hcq,hfq⟩ := bcell hC
  simp at hd
  refine ⟨by go_simp; done, ?_⟩
  go_simp
  first | (go_ints; exact rfl) | (go_ints; rw [if_pos (by omega)]; try exact rfl) | exact rfl | (rw [if_pos (by omega)]; try exact rfl)
 refine walkM_call (MP.sl (loadL p)) ?_ ?_
 ·intro yq zq wq hC hd
  obtain ⟨hcq,hfq⟩ := bcell hC
  simp at hd
  refine ⟨by go_simp; done, ?_⟩
  apply Exists.intro
  apply Exists.intro
  constructor
  ·go_simp
   exact ⟨rfl,rfl⟩
  ·exact gives_sl (impl_load _ p _ xs ys wq (HX.out.below (Below.next HBW2.out hC)) HD.out.md HD.out.pr.sl HD.out.ld)
 refine walkM_new #[.slice none 0 0] 143 ?_ ?_
 ·intro yq zq wq hC hd
  refine ⟨by go_simp; done, ?_⟩
  go_simp
 intro yq zq wa hC hd hdis0
 have hdis := hid hdis0
 clear hdis0
 simp at hd
 have q2 := hd.2.2.1
 have q4 := hd.2.2.2.2.1
 have q5 := hd.2.2.2.2.2
 obtain ⟨ha2,hr2⟩ := q2
 obtain ⟨AM,nM,cM,sM,e2,z2,hsM⟩ := TMatrix.agg ha2
 obtain ⟨⟨⟨L0,nL,cL,e4,hsL⟩,hfL⟩,hrL⟩ := q4
 obtain ⟨⟨gM,e5,z5,hgM⟩,hr5⟩ := q5
 rw [z5] at hr5
 rw [e2] at ha2
 have hgM2 : w2.heap.size ≤ gM := (hr5 gM (by simp)).1
 have hgMl := lt_of_get hgM
 have hdd := hdis.out 2 5 (by decide) (by decide) (by decide)
 have hddL := hdis.out 4 5 (by decide) (by decide) (by decide)
 rw [z5] at hdd hddL
 obtain ⟨m0,m1⟩ := box_cell hgM (j := 0) rfl
 simp at m0
 obtain ⟨W3,hW3⟩ : ∃ W3,W3 = wa.setCell ⟨gM,0,none⟩ (.slice AM nM cM) := ⟨_,rfl⟩
 have HW3 := hid hW3
 have HB3 := hid (show Below w2.heap.size w2 W3 by rw [hW3]; exact hC.setCell (p := ⟨gM,0,none⟩) hgM2 _)
 have KM := hid (show W3.heap[gM]? = some (.cells #[.slice AM nM cM] 143) by rw [hW3]; exact heap_setSelf hgM)
 have AM3 := hid (show Agg W3 (.agg #[.slice AM nM cM]) (mat1 om) (zq 2) by rw [hW3]; exact ha2.keep (fun b hb => Below.heap_setCell _ _ _ _ (fun e => hdd b hb (by simp at e; simp [e]))))
 have SL3 := hid (show Sl W3 L0 nL cL (loadL p) (zq 4) by rw [hW3]; exact hsL.keep (fun b hb => Below.heap_setCell _ _ _ _ (fun e => hddL b hb (by simp at e; simp [e]))))
 generalize zq 2 = zM at *
 generalize zq 4 = zL at *
 clear hd hdis ha2 hr2 hsM hsL hfL hrL hr5 hdd hddL hgM hC hW3 z2 z5 k0 k1 k2 k3
 go_upto_region 3 with fail
 rw [← HW3.out]
 clear m0 m1 hgMl
 have hgM3 := lt_of_block KM.out
 have hs3 := HB3.out.size
 have hz03 : w.heap.size < W3.heap.size := by omega
 have hz13 : w.heap.size + 1 < W3.heap.size := by omega
 obtain ⟨k0, _⟩ := box_cell (heap_keep' K0.out (Below.next HB2.out HB3.out)) (j := 0) rfl
 obtain ⟨k1, _⟩ := box_cell (heap_keep' K0.out (Below.next HB2.out HB3.out)) (j := 1) rfl
 obtain ⟨k2, _⟩ := box_cell (heap_keep' K0.out (Below.next HB2.out HB3.out)) (j := 2) rfl
 obtain ⟨k3, _⟩ := box_cell (heap_keep' K0.out (Below.next HB2.out HB3.out)) (j := 3) rfl
 obtain ⟨l0, _⟩ := box_cell (heap_keep' K1.out (Below.next HB2.out HB3.out)) (j := 0) rfl
 obtain ⟨l1, _⟩ := box_cell (heap_keep' K1.out (Below.next HB2.out HB3.out)) (j := 1) rfl
 obtain ⟨l2, _⟩ := box_cell (heap_keep' K1.out (Below.next HB2.out HB3.out)) (j := 2) rfl
 obtain ⟨m0, _⟩ := box_cell KM.out (j := 0) rfl
 simp at k0 k1 k2 k3 l0 l1 l2 m0
 have HBW3 := hid (Below.next HBW2.out HB3.out)
 refine wp_region_lateline 10 8 _ rfl (by kernel_rfl) (by kernel_rfl) (by kernel_rfl) (by kernel_rfl) (by kernel_rfl) ?_
 simp only [List.take_succ_cons,List.take_zero,List.drop_succ_cons,List.drop_zero]
 refine walkM_call (MP.agg (rint 1)) ?_ ?_
 ·intro yq zq wq hC hd
  obtain ⟨hcq,hfq⟩ := bcell hC
  simp at hd
  refine ⟨by go_simp; done, ?_⟩
  apply Exists.intro
  apply Exists.intro
  constructor
  ·go_simp
   exact ⟨rfl,rfl⟩
  ·exact gives_agg (impl_RatFromInt 1 wq (by constructor <;> decide))
 iterate 3
  apply walkM_eq
  case h =>
   intro yq zq wq hC hd
   obtain ⟨hcq,hfq⟩ := bcell hC
   simp at hd
   refine ⟨by go_simp; done, ?_⟩
   go_simp
   first | (go_ints; exact rfl) | (go_ints; rw [if_pos (by omega)]; try exact rfl) | exact rfl | (rw [if_pos (by omega)]; try exact rfl)
 refine walkM_call (MP.aggW (mat1 os)) ?_ ?_
 ·intro yq zq wq hC hd
  obtain ⟨hcq,hfq⟩ := bcell hC
  simp at hd
  refine ⟨by go_simp; done, ?_⟩
  apply Exists.intro
  apply Exists.intro
  constructor
  ·go_simp
   exact ⟨rfl,rfl⟩
  ·exact gives_ma (impl_stiffness _ p _ xs ys os wq (HX.out.below (Below.next HBW3.out hC)) HD.out.md HD.out.pr.dl HD.out.hs HD.out.oks)
 refine walkM_call (MP.tupW (mat1 (comb1 (rint 1) tau om os))) ?_ ?_
 ·intro yq zq wq hC hd
  obtain ⟨hcq,hfq⟩ := bcell hC
  simp at hd
  refine ⟨by go_simp; done, ?_⟩
  apply Exists.intro
  apply Exists.intro
  constructor
  ·go_simp
   exact ⟨rfl,rfl⟩
  ·exact gives_mx (impl_Combine _ _ _ _ (rint 1) tau om os _ _ _ _ wq hd.1.1 (HT.out.below (Below.next HBW3.out hC)) (AM3.out.below hC) hd.2.2.2 rint1_ok HD.out.tok HD.out.okm HD.out.oks HD.out.ns HD.out.okc)
 refine walkM_runD (fun y' => MP.tupA (y' 5)) (by intro y y' h; simp [deps,depOf] at h; simp [h]) ?_ ?_
 ·intro yr zr wq hC hd
  simp at hd
  obtain ⟨u,e, _⟩ := hd
  refine ⟨by go_simp; done,yr 5,wq, ?_,Below.refl _ _, [],⟨rfl,rfl,u,e⟩,by simp⟩
  go_simp
 refine walkM_runD (fun y' => MP.tup1 (y' 6)) (by intro y y' h; simp [deps,depOf] at h; simp [h]) ?_ ?_
 ·intro yr zr wq hC hd
  simp at hd
  obtain ⟨_,e0,u,e⟩ := hd
  clear e0
  refine ⟨by go_simp; done,u,wq, ?_,Below.refl _ _, [],⟨rfl,e⟩,by simp⟩
  go_simp
 refine walkM_eq (.bool true) ?_ ?_
 ·intro yr zr wq hC hd
  simp at hd
  obtain ⟨_,e0,u,e⟩ := hd
  clear e0
  refine ⟨by go_simp; done, ?_⟩
  go_simp
 refine walkM_new #[.slice none 0 0] 143 ?_ ?_
 ·intro yr zr wq hC hd
  refine ⟨by go_simp; done, ?_⟩
  go_simp
 intro yr zr wb hC hd hdis0
 have hdis := hid hdis0
 clear hdis0
 simp at hd
 have q5 := hd.2.2.2.2.2.1
 have q6 := hd.2.2.2.2.2.2.1
 have q7 := hd.2.2.2.2.2.2.2.1
 have q8 := hd.2.2.2.2.2.2.2.2.1
 have q9 := hd.2.2.2.2.2.2.2.2.2
 obtain ⟨⟨u,e5,ha5⟩,hr5⟩ := q5
 obtain ⟨AQ,nQ,cQ,sQ,rfl,z5,hsQ⟩ := TMatrix.agg ha5
 have e6 : yr 6 = .tuple #[.agg #[.slice AQ nQ cQ], .bool true] := by rw [q6.1.2.1,e5]
 have e7 : yr 7 = .agg #[.slice AQ nQ cQ] := by
  have := q7.1.2
  rw [e6] at this
  simpa using this.symm
 have e8 := q8.1.1
 obtain ⟨⟨gA,e9,z9,hgA⟩,hr9⟩ := q9
 rw [z9] at hr9
 have hgA3 : W3.heap.size ≤ gA := (hr9 gA (by simp)).1
 have hgAl := lt_of_get hgA
 have hddA := hdis.out 5 9 (by decide) (by decide) (by decide)
 rw [z9] at hddA
 obtain ⟨x0,x1⟩ := box_cell hgA (j := 0) rfl
 simp at x0
 obtain ⟨W4,hW4⟩ : ∃ W4,W4 = wb.setCell ⟨gA,0,none⟩ (.slice AQ nQ cQ) := ⟨_,rfl⟩
 have HW4 := hid hW4
 have HB4 := hid (show Below W3.heap.size W3 W4 by rw [hW4]; exact hC.setCell (p := ⟨gA,0,none⟩) hgA3 _)
 have KA := hid (show W4.heap[gA]? = some (.cells #[.slice AQ nQ cQ] 143) by rw [hW4]; exact heap_setSelf hgA)
 have AQ4 := hid (show Agg W4 (.agg #[.slice AQ nQ cQ]) (mat1 (comb1 (rint 1) tau om os)) (zr 5) by rw [hW4]; exact ha5.keep (fun b hb => Below.heap_setCell _ _ _ _ (fun e => hddA b hb (by simp at e; simp [e]))))
 generalize zr 5 = zQ at *
 clear hd hdis ha5 hr5 hsQ q6 q7 q8 hr9 hddA hgA hC hW4 z5 z9 k0 k1 k2 k3 l0 l1 l2 m0
 refine ⟨W4, ?_, ?_⟩
 ·rw [HW4.out]; go_simp
 have NXL := hid (show nL = nx by rw [NX.out, ← HD.out.ll]; exact SL3.out.1.symm)
 have NQX := hid (show nQ = nx by
  obtain ⟨_, _, _, _,e, _,h⟩ := TMatrix.agg AQ4.out
  injection e with e
  simp at e
  rw [e.2.1, ← h.1,NX.out]
  have hc := comb1_len (r := rint 1) (s := tau) HD.out.ns
  rw [← hc]
  cases comb1 (rint 1) tau om os <;> rfl)
 obtain rfl : nL = nx := NXL.out
 obtain rfl : nQ = nL := NQX.out
 have NC := hid (show nQ = len1 (comb1 (rint 1) tau om os) by rw [comb1_len HD.out.ns]; exact NX.out)
 have hq1 : nQ ≤ 1 := by rw [NX.out]; cases om <;> simp [len1]
 have hq1i : (nQ : Int) ≤ 1 := by omega
 obtain ⟨a0, _⟩ := box_cell KA.out (j := 0) rfl
 obtain ⟨b0, _⟩ := box_cell (heap_keep' KM.out HB4.out) (j := 0) rfl
 simp at a0 b0
 have hgA4 := lt_of_block KA.out
 have hs4 := HB4.out.size
 have hgM4 : gM < W4.heap.size := by omega
 clear x0 x1 e5 e6 hgAl
 go_wp2_with fail
 clear e7 e8 e9
 refine (impl_apply _ om (innerP p.mesh us) _ X0 nQ cx xb W4 (AM3.out.below HB4.out) (HSX.out.below (Below.next HB3.out HB4.out)) NX.out HU.out.ap).mono ?_
 rintro _ w5 ⟨Y0,ny,cy,yb,rfl,hsy,hoy,hb5⟩
 obtain rfl : nQ = ny := by rw [← hsy.1,NX.out]; exact (applyL_len (by rw [← NX.out]; exact HSX.out.1)).symm
 have HSY := hid hsy
 have HB5 := hid hb5
 have HBW5 := hid (Below.next HBW3.out (Below.next HB4.out hb5))
 clear hsy hoy hb5 a0 b0
 have hs5 := HB5.out.size
 have hz15 : w.heap.size + 1 < w5.heap.size := by omega
 obtain ⟨l0, _⟩ := box_cell (heap_keep' K1.out (Below.next HB2.out (Below.next HB3.out (Below.next HB4.out HB5.out)))) (j := 0) rfl
 obtain ⟨l1, _⟩ := box_cell (heap_keep' K1.out (Below.next HB2.out (Below.next HB3.out (Below.next HB4.out HB5.out)))) (j := 1) rfl
 obtain ⟨l2, _⟩ := box_cell (heap_keep' K1.out (Below.next HB2.out (Below.next HB3.out (Below.next HB4.out HB5.out)))) (j := 2) rfl
 simp at l0 l1 l2
 go_wp2_with fail
 refine (impl_combined Y0 nQ cy (applyL om (innerP p.mesh us)) yb _ tau _ L0 nQ cL (loadL p) zL w5 HSY.out (HT.out.below HBW5.out) (SL3.out.below (Below.next HB4.out HB5.out)) (by omega) (Nat.le_refl _)).mono ?_
 rintro _ w6 ⟨R0,nr,cr,rb,rfl,hsr,hor,hb6⟩
 obtain rfl : nQ = nr := by rw [← hsr.1,combL,List.length_zipWith,HSY.out.1,SL3.out.1,Nat.min_self]
 have HSR := hid hsr
 have HB6 := hid (Below.next HB5.out hb6)
 obtain ⟨a0, _⟩ := box_cell (heap_keep' KA.out HB6.out) (j := 0) rfl
 simp at a0
 have hgA6 : gA < w6.heap.size := by have := HB6.out.size; omega
 clear hsr hor hb6 l0 l1 l2
 go_wp2_with fail
 refine (impl_SolveMatrix _ (comb1 (rint 1) tau om os) _ _ R0 nQ cr rb w6 (AQ4.out.below HB6.out) HSR.out NC.out HD.out.okc HD.out.pos HU.out.rt ?_).mono ?_
 ·rw [List.any_eq_false]
  intro x hx
  have := List.all_eq_true.1 HU.out.so x hx
  have h := ok_den this
  unfold denBad
  simpa using h
 rintro _ w7 ⟨Z0,nz,cz,zb,rfl,hsz,hoz,hb7⟩
 have HSZ := hid hsz
 have HB7 := hid (Below.next HB6.out hb7)
 have HBW7 := hid (Below.next HBW3.out (Below.next HB4.out HB7.out))
 have NZ := hid (show nz = (ptsOfL p.mesh false).length by
  rw [HD.out.nm, ← NX.out, ← hsz.1]
  have h1 := HSR.out.1
  have h2 := NC.out
  cases hc : comb1 (rint 1) tau om os with
  | none => rw [hc] at h2; simp [len1] at h2; simp [solveL,h2]
  | some r => rw [hc] at h2; simp [len1] at h2; rw [h2] at h1; match hh : combL (applyL om (innerP p.mesh us)) tau (loadL p),h1 with
   | y :: ys, _ => simp [solveL,h2])
 have LZ := hid (lim24_all HU.out.so)
 clear hsz hoz hb7 a0
 have hz07 : w.heap.size < w7.heap.size := by have := HB7.out.size; omega
 obtain ⟨k0, _⟩ := box_cell (heap_keep' K0.out (Below.next HB2.out (Below.next HB3.out (Below.next HB4.out HB7.out)))) (j := 0) rfl
 obtain ⟨k1, _⟩ := box_cell (heap_keep' K0.out (Below.next HB2.out (Below.next HB3.out (Below.next HB4.out HB7.out)))) (j := 1) rfl
 simp at k0 k1
 go_wp2_with fail
 refine (impl_spread _ p.mesh _ Z0 nz cz _ zb w7 (HMA.out.below HBW7.out) HD.out.md.mesh.n40 HD.out.md.mesh.t48 HD.out.md.es HSZ.out NZ.out LZ.out).mono ?_
 rintro _ w8 ⟨S0,nS,cS,sb,rfl,hss,hos,hb8⟩
 have HSS := hid hss
 have HOS := hid (hos.older (w0 := w) HBW7.out.size)
 have HB8 := hid (Below.next HBW7.out hb8)
 clear hss hos hb8 k0 k1
 go_wp2
 go_ret2
 exact ⟨S0,nS,cS,sb,rfl,HSS.out,HOS.out,HB8.out⟩
end Go.Proofs.YtpfipnankjeokaaGreat.X
namespace Go.Proofs.YtpfipnankjeokaaGreat.X
open Go.RowKit Go.XB Go.XN
attribute [local go_sem] fillBy Go.XB.opAt deps depOf Region.wanted yielded
attribute [local simp] deps depOf MP.eq MP.agg MP.aggS MP.aggW MP.sl MP.slbox Facts
set_option maxHeartbeats 4000000 in
theorem impl_HeatStep (v : Value) (p : TProblem) (b : List Nat) (xs ys : List Int) (B : Option Addr) (n d : Nat) (us : List TRat) (ds : List Nat) (vt : Value) (tau : TRat) (bt : List Nat) (om os : Option TRat) (w : World) (hx : Agg w v p b) (hD : HeatD p xs ys om os tau) (hU : HeatU p om os tau us) (hu : Sl w B n d us ds) (ht : Agg w vt tau bt) :
  Calls Tryz.prog 24 #[v, .slice B n d,vt] w (GivesSolve w (stepL p om os tau us)) := by
 have HX := hid hx; have HD := hid hD; have HU := hid hU; have HUS := hid hu; have HT := hid ht
 obtain ⟨A0,n0,c0,s0,A1,n1,c1,s1,A2,n2,c2,s2,A3,n3,c3,s3,rfl,rfl,hs0,hs1,hs2,hs3⟩ := TProblem.agg hx
 obtain ⟨T1,nT1,cT1,t1,T2,nT2,cT2,t2,rfl,rfl, _, _⟩ := TRat.agg ht
 have hnn := hid (show n = p.mesh.points.length by rw [← hu.1]; exact hU.len)
 clear hx hD hU hu ht hs0 hs1 hs2 hs3
 go_enter Tryz.func24,Tryz.ntmps24
 go_wp2_with fail
 refine (impl_isHeat _ p _ xs ys B n d us ds _ tau _ _ (HX.out.below Below.go) HD.out.pr (HUS.out.below Below.go) HU.out.ok hnn.out (HT.out.below Below.go) HD.out.t1).mono ?_
 rintro _ w1 ⟨rfl,hb1⟩
 obtain ⟨hc_w1,hf_w1⟩ := bcell hb1
 have hz0_w1 : w.heap.size < w1.heap.size := by have := hb1.size; (try simp at this); omega
 have hz1_w1 : w.heap.size + 1 < w1.heap.size := by have := hb1.size; (try simp at this); omega
 have HB1 := hid (show Below w.heap.size w w1 from Below.go)
 clear hb1
 go_wp2_with fail
 refine (impl_heatStep _ p _ xs ys B n d us ds _ tau _ om os w1 (HX.out.below HB1.out) HD.out HU.out (HUS.out.below HB1.out) (HT.out.below HB1.out)).mono ?_
 rintro _ w2 ⟨A,m,c,bs,rfl,hs,ho,hb⟩
 have HS := hid hs; have HO := hid (ho.older (w0 := w) HB1.out.size); have HB := hid (Below.next HB1.out hb)
 clear hs ho hb
 go_wp2
 go_ret2
 exact ⟨A,m,c,bs,rfl,HS.out,HO.out,HB.out⟩
def GivesRun (w : World) (xss : List (List TRat)) (e : Ending) (w' : World) : Prop := ∃ A n c bs,e = .returned (.tuple #[.slice A n c, .bool true]) ∧ Sl w' A n c xss bs ∧ Below w.heap.size w w'
theorem infoRw3 : (Tryz.prog.info? 36).map (fun i => (i.zero,i.size,i.bytes)) = some (some (.slice none 0 0),1,24) := by kernel_rfl
set_option maxHeartbeats 8000000 in
set_option maxRecDepth 10000 in
theorem impl_HeatRun2 (v : Value) (p : TProblem) (b : List Nat) (xs ys : List Int) (B : Option Addr) (n d : Nat) (us : List TRat) (ds : List Nat) (vt : Value) (tau : TRat) (bt : List Nat) (om os : Option TRat) (w : World) (hx : Agg w v p b) (hD : HeatD p xs ys om os tau) (hU : HeatU p om os tau us) (hU2 : HeatU p om os tau (stepL p om os tau us)) (hu : Sl w B n d us ds) (ht : Agg w vt tau bt) :
  Calls Tryz.prog 23 #[v, .slice B n d,vt, .int .i64 2] w (GivesRun w [stepL p om os tau us,stepL p om os tau (stepL p om os tau us)]) := by
 have HX := hid hx; have HD := hid hD; have HU := hid hU; have HU2 := hid hU2; have HUS := hid hu; have HT := hid ht
 obtain ⟨A0,n0,c0,s0,A1,n1,c1,s1,A2,n2,c2,s2,A3,n3,c3,s3,rfl,rfl,hs0,hs1,hs2,hs3⟩ := TProblem.agg hx
 obtain ⟨T1,nT1,cT1,t1,T2,nT2,cT2,t2,rfl,rfl, _, _⟩ := TRat.agg ht
 have hnn := hid (show n = p.mesh.points.length by rw [← hu.1]; exact hU.len)
 obtain ⟨i0,hi,hz0,hz1,hz2⟩ := info_parts infoRw3
 clear hx hD hU hU2 hu ht hs0 hs1 hs2 hs3
 go_enter Tryz.func23,Tryz.ntmps23
 go_wp2_with fail
 refine (impl_isHeat _ p _ xs ys B n d us ds _ tau _ ((w.alloc (.cells #[.slice A0 n0 c0, .slice A1 n1 c1, .slice A2 n2 c2, .slice A3 n3 c3] 51)).alloc (.cells #[.bool tau.num.neg, .slice T1 nT1 cT1, .slice T2 nT2 cT2] 32)) (HX.out.below Below.go) HD.out.pr (HUS.out.below Below.go) HU.out.ok hnn.out (HT.out.below Below.go) HD.out.t1).mono ?_
 rintro _ w1 ⟨rfl,hb1⟩
 have HB1 := hid (show Below w.heap.size w w1 from Below.go)
 have K0 := hid (show w1.heap[w.heap.size]? = some (.cells #[.slice A0 n0 c0, .slice A1 n1 c1, .slice A2 n2 c2, .slice A3 n3 c3] 51) from heap_keep' (allocs_heap [_, _] w 0 _ rfl) (hb1.mono (Nat.le_refl _)))
 have K1 := hid (show w1.heap[w.heap.size + 1]? = some (.cells #[.bool tau.num.neg, .slice T1 nT1 cT1, .slice T2 nT2 cT2] 32) from heap_keep' (allocs_heap [_, _] w 1 _ rfl) (hb1.mono (Nat.le_refl _)))
 clear hb1
 go_wp2_with fail
 refine (impl_within 2 0 4 w1).mono ?_
 rw [show inB 0 2 4 = true from rfl]
 rintro _ w2 ⟨rfl,hb2⟩
 have HB2 := hid hb2
 have HBW2 := hid (Below.next HB1.out hb2)
 have P0 := hid (Pend.start (α := List TRat) (e := 36) HBW2.out)
 have B3 := hid (show Below w2.heap.size w2 (w2.alloc (.cells #[] 36)) from Below.box _)
 obtain ⟨W3,hW3⟩ : ∃ W3,W3 = w2.alloc (.cells #[] 36) := ⟨_,rfl⟩
 have HW3 := hid hW3
 rw [← hW3] at P0 B3
 have HB3 := hid (show Below w.heap.size w W3 from Below.next HBW2.out B3.out)
 have K03 := hid (heap_keep' K0.out (Below.next HB2.out B3.out))
 have K13 := hid (heap_keep' K1.out (Below.next HB2.out B3.out))
 have hy1 := lt_of_block K13.out
 have hy0 : w.heap.size < W3.heap.size := by omega
 clear hb2 hW3
 obtain ⟨gB,hgB⟩ : ∃ gB,w2.heap.size = gB := ⟨_,rfl⟩
 rw [hgB] at P0
 have HGB := hid hgB
 clear hgB
 go_wp2_with fail
 rw [← HW3.out,HGB.out]
 have C3 := hid (show 0 + 1 ≤ maxLen by decide)
 have C4 := hid (show (0 + 1) * 24 ≤ 140737488355328 by decide)
 have C5 := hid (show 0 + 1 + 1 ≤ maxLen by decide)
 have C6 := hid (show (0 + 1 + 1) * 24 ≤ 140737488355328 by decide)
 refine wp_loop_rounds 3 ?_
 rw [rounds_succ]
 obtain ⟨k0, _⟩ := box_cell K03.out (j := 0) rfl
 obtain ⟨k1, _⟩ := box_cell K03.out (j := 1) rfl
 obtain ⟨k2, _⟩ := box_cell K03.out (j := 2) rfl
 obtain ⟨k3, _⟩ := box_cell K03.out (j := 3) rfl
 obtain ⟨l0, _⟩ := box_cell K13.out (j := 0) rfl
 obtain ⟨l1, _⟩ := box_cell K13.out (j := 1) rfl
 obtain ⟨l2, _⟩ := box_cell K13.out (j := 2) rfl
 simp at k0 k1 k2 k3 l0 l1 l2
 go_wp2_with fail
 refine (impl_heatStep _ p _ xs ys B n d us ds _ tau _ om os W3 (HX.out.below HB3.out) HD.out HU.out (HUS.out.below HB3.out) (HT.out.below HB3.out)).mono ?_
 obtain ⟨v1,hv1⟩ : ∃ v1,stepL p om os tau us = v1 := ⟨_,rfl⟩
 rw [hv1] at HU2 ⊢
 have HV1 := hid hv1
 clear hv1
 rintro _ w4 ⟨A4,m4,c4,b4,rfl,hs4,ho4,hb4⟩
 have HS4 := hid hs4
 have HB4 := hid hb4
 have AT4 := hid (show Dat.at_ (w4.alloc (.cells #[.slice A4 m4 c4] 36)) [.slice A4 m4 c4] v1 b4 from ⟨A4,m4,c4,rfl,hs4.below (Below.box _)⟩)
 have HF4 := hid ((ho4.below (Below.box (.cells #[.slice A4 m4 c4] 36))).free)
 have HR4 := hid (show ∀ b ∈ b4,W3.heap.size ≤ b from fun b hb => (ho4.2 b hb).1)
 have HBa := hid (show Below W3.heap.size W3 (w4.alloc (.cells #[.slice A4 m4 c4] 36)) from Below.next hb4 (Below.box _))
 clear hs4 ho4 hb4 k0 k1 k2 k3 l0 l1 l2
 go_wp2_with (at_builtin; refine wpList_pend rfl _ _ 55 rfl 36 i0 (.slice none 0 0) 24 Tryz.underlying55 hi hz0 hz1 hz2 rfl P0.out HBa.out (by go_simp; done) ⟨w4.heap.size,0,none⟩ 1 [.slice A4 m4 c4] v1 b4 (by go_simp; done) (block_cells (heap_alloc_new w4 _)) AT4.out HF4.out HR4.out C3.out C4.out ?_; intro g5 cap5 w5 hp5 hgrow5 hor5)
 have HP5 := hid (show Pend w w2 36 w5 g5 1 cap5 [v1] from hp5)
 have hgB3 := P0.out.lt.2
 have HS5 := hid (Sl.pushed HS4.out (Below.box _) hgrow5 (by rcases hor5 with h | h; exact .inl h; exact .inr (by simpa using h)) (fun h => by have := HR4.out _ h; omega)).1
 have HBB5 := hid (show Below w2.heap.size w2 w5 from hp5.bb)
 have HBW5 := hid (show Below w.heap.size w w5 from hp5.bw)
 clear hp5 hgrow5 hor5 AT4 HF4 P0
 rw [rounds_succ]
 obtain ⟨k0, _⟩ := box_cell (heap_keep' (heap_keep' K0.out HB2.out) HBB5.out) (j := 0) rfl
 obtain ⟨k1, _⟩ := box_cell (heap_keep' (heap_keep' K0.out HB2.out) HBB5.out) (j := 1) rfl
 obtain ⟨k2, _⟩ := box_cell (heap_keep' (heap_keep' K0.out HB2.out) HBB5.out) (j := 2) rfl
 obtain ⟨k3, _⟩ := box_cell (heap_keep' (heap_keep' K0.out HB2.out) HBB5.out) (j := 3) rfl
 obtain ⟨l0, _⟩ := box_cell (heap_keep' (heap_keep' K1.out HB2.out) HBB5.out) (j := 0) rfl
 obtain ⟨l1, _⟩ := box_cell (heap_keep' (heap_keep' K1.out HB2.out) HBB5.out) (j := 1) rfl
 obtain ⟨l2, _⟩ := box_cell (heap_keep' (heap_keep' K1.out HB2.out) HBB5.out) (j := 2) rfl
 simp at k0 k1 k2 k3 l0 l1 l2
 go_wp2_with fail
 refine (impl_heatStep _ p _ xs ys A4 m4 c4 v1 b4 _ tau _ om os w5 (HX.out.below HBW5.out) HD.out HU2.out HS5.out (HT.out.below HBW5.out)).mono ?_
 obtain ⟨v2,hv2⟩ : ∃ v2,stepL p om os tau v1 = v2 := ⟨_,rfl⟩
 rw [hv2]
 have HV2 := hid hv2
 clear hv2
 rintro _ w6 ⟨A6,m6,c6,b6,rfl,hs6,ho6,hb6⟩
 have AT6 := hid (show Dat.at_ (w6.alloc (.cells #[.slice A6 m6 c6] 36)) [.slice A6 m6 c6] v2 b6 from ⟨A6,m6,c6,rfl,hs6.below (Below.box _)⟩)
 have HF6 := hid ((ho6.below (Below.box (.cells #[.slice A6 m6 c6] 36))).free)
 have HR6 := hid (show ∀ b ∈ b6,w5.heap.size ≤ b from fun b hb => (ho6.2 b hb).1)
 have HBb := hid (show Below w5.heap.size w5 (w6.alloc (.cells #[.slice A6 m6 c6] 36)) from Below.next hb6 (Below.box _))
 clear hs6 ho6 hb6 k0 k1 k2 k3 l0 l1 l2
 go_wp2_with (at_builtin; refine wpList_pend rfl _ _ 55 rfl 36 i0 (.slice none 0 0) 24 Tryz.underlying55 hi hz0 hz1 hz2 rfl HP5.out HBb.out (by go_simp; done) ⟨w6.heap.size,0,none⟩ 1 [.slice A6 m6 c6] v2 b6 (by go_simp; done) (block_cells (heap_alloc_new w6 _)) AT6.out HF6.out HR6.out C5.out C6.out ?_; intro g7 cap7 w7 hp7 hgrow7 hor7)
 have HP7 := hid (show Pend w w2 36 w7 g7 2 cap7 [v1,v2] from hp7)
 clear hp7 hgrow7 hor7 AT6 HF6 HP5
 rw [rounds_succ]
 go_wp2
 go_ret2
 rw [HV1.out,HV2.out]
 obtain ⟨A9,n9,c9,b9,e,hs9, _,hb9⟩ := HP7.out.done
 injection e with e
 injection e with ea en ec
 subst ea; subst en; subst ec
 exact ⟨_,2,cap7,b9,rfl,hs9,hb9⟩
end Go.Proofs.YtpfipnankjeokaaGreat.X
