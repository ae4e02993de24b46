/- FnHeatRun: for every input,two steps through time on a coarse problem are what HeatStep gives twice: the law returns true,and its argument reads as before. No condition. -/
import Derived.Test.YtpfipnankjeokaaGreatY2
import Derived.Test.YtpfipnankjeokaaGreatY4
import Derived.Test.YtpfipnankjeokaaGreatY28
import Derived.Test.YtpfipnankjeokaaGreatY18
import Derived.WalkLawsBesides
import Derived.ProofKit
import Derived.OpenShut
namespace Go.Proofs.YtpfipnankjeokaaGreat.fnHeatRun
open Go.ChangeShapes Go.WideShapes Go.ChangeAt Go.RowKit Go.XB Go.XN Go.Proofs.YtpfipnankjeokaaGreat.X
attribute [local go_sem] fillBy Go.XB.opAt deps depOf Region.wanted yielded
attribute [local simp] deps depOf MP.eq MP.agg MP.sl Facts
set_option linter.constructorNameAsVariable false

theorem oTByte : Opens Tryz.prog 5 TByte := fun enc w fuel cs y h => by
 obtain ⟨n,rfl, _,hn⟩ := DataW.trod_int Tryz.underlying5 h
 exact ⟨⟨n⟩, [],rfl,rfl,by
  simp [Lit.wf,IntKind.min,IntKind.max,IntKind.signed,IntKind.bits] at hn
  show 0 ≤ n ∧ n < 256
  omega⟩
theorem oLTByte : Opens Tryz.prog 22 (List TByte) := Opens.slice Tryz.underlying22 (by kernel_rfl) oTByte

set_option maxHeartbeats 16000000 in
set_option maxRecDepth 10000 in
theorem walk (A0 : Option Addr) (n0 c0 : Nat) (x0 : List TByte) (b0 : List Nat) (w : World) (h0 : Sl w A0 n0 c0 x0 b0) :
  Calls Tryz.prog 4 #[.slice A0 n0 c0] w (Gives w (.bool true)) := by
 have H0 := hid h0
 have hm0 : n0 ≤ maxLen := Nat.le_trans h0.2.1 h0.2.2.1
 unfold maxLen at hm0
 clear h0
 by_cases hbig : (1048576 : Int) < n0
 ·go_enter Tryz.func4,Tryz.ntmps4
  go_wp2
  go_ret
  exact ⟨rfl,Below.refl _ _⟩
 have hn : n0 ≤ 1048576 := by omega
 go_enter Tryz.func4,Tryz.ntmps4
 go_wp2_with fail
 refine (spec_MakeCoarseProblem _ _ _ x0 _ w H0.out hn).mono ?_
 rintro _ w1 ⟨p,v1,s1,rfl,hp,ha1,hb1⟩
 obtain ⟨xs,ys,om,os,hD,hU,hU2⟩ := heat_good hp
 have HD := hid hD; have HU := hid hU; have HU2 := hid hU2
 have HA1 := hid ha1; have BW1 := hid hb1
 obtain ⟨P,nP,cP,sP,T,nT,cT,sT,K,nK,cK,sK,F,nF,cF,sF,rfl,hz,hsP,hsT,hsK,hsF⟩ := TProblem.agg ha1
 have HMA := hid (TMesh.mkAgg hsP hsT)
 have hnP := hid hsP.1
 clear hD hU hU2 hp ha1 hb1 hz hsP hsT hsK hsF
 go_wp2_with fail
 obtain ⟨w2,hw2⟩ : ∃ x,x = w1.alloc (.cells #[.slice P nP cP, .slice T nT cT, .slice K nK cK, .slice F nF cF] 51) := ⟨_,rfl⟩
 have HB12 := hid (show Below w1.heap.size w1 w2 by rw [hw2]; exact Below.box _)
 have hbox2 : w2.heap[w1.heap.size]? = some (.cells #[.slice P nP cP, .slice T nT cT, .slice K nK cK, .slice F nF cF] 51) := by rw [hw2]; exact heap_alloc_new w1 _
 rw [← hw2]
 clear hw2
 have HBX2 := hid hbox2
 have hl2 : w1.heap.size < w2.heap.size := lt_of_get hbox2
 obtain ⟨c0_, -⟩ := box_cell HBX2.out (j := 0) rfl
 refine (impl_ZeroValues _ p.mesh _ xs ys w2 (HMA.out.below HB12.out) HD.out.pr.mesh).mono ?_
 rintro _ w3 ⟨U,nU,cU,bU,rfl,hsU,hoU,hb3⟩
 obtain rfl : nP = nU := by rw [← hsU.1, ← hnP.out]; simp
 have HUS3 := hid hsU
 have HB13 := hid (Below.next HB12.out hb3)
 have HBX3 := hid ((hb3.block w1.heap.size hl2).trans HBX2.out)
 have hl3 : w1.heap.size < w3.heap.size := lt_of_get HBX3.out
 clear hsU hoU hb3 hbox2 c0_ hl2
 go_wp2_with fail
 refine (impl_RatOf 1 2 w3 (by constructor <;> decide) (by constructor <;> decide) (by decide)).mono ?_
 obtain ⟨tau,htau⟩ : ∃ r,mkR 1 2 = r := ⟨_,rfl⟩
 rw [htau] at HD HU HU2 ⊢
 clear htau
 rintro _ w4 ⟨v4,s4,rfl,ha4,ho4,hb4⟩
 obtain ⟨E1,nE1,cE1,e1,E2,nE2,cE2,e2,rfl,hz4, _, _⟩ := TRat.agg ha4
 have HTA4 := hid ha4; have HB14 := hid (Below.next HB13.out hb4)
 have HUS4 := hid (HUS3.out.below hb4)
 have HBX4 := hid ((hb4.block w1.heap.size hl3).trans HBX3.out)
 have hl4 : w1.heap.size < w4.heap.size := lt_of_get HBX4.out
 clear ha4 ho4 hb4 hz4 HUS3 HB13
 go_upto_region 6 with fail
 obtain ⟨w5,hw5⟩ : ∃ x,x = w4.alloc (.cells #[.bool tau.num.neg, .slice E1 nE1 cE1, .slice E2 nE2 cE2] 32) := ⟨_,rfl⟩
 have hb5 : Below w4.heap.size w4 w5 := by rw [hw5]; exact Below.box _
 have HBT5 := hid (show w5.heap[w4.heap.size]? = some (.cells #[.bool tau.num.neg, .slice E1 nE1 cE1, .slice E2 nE2 cE2] 32) by rw [hw5]; exact heap_alloc_new w4 _)
 rw [← hw5]
 clear hw5
 have HBX5 := hid ((hb5.block w1.heap.size hl4).trans HBX4.out)
 have HA5 := hid ((HA1.out.below HB14.out).below hb5)
 have HUS5 := hid (HUS4.out.below hb5)
 have HTA5 := hid (HTA4.out.below hb5)
 have HB15 := hid (Below.next HB14.out hb5)
 have hl5 : w1.heap.size < w5.heap.size := lt_of_get HBX5.out
 have hm5 : w4.heap.size < w5.heap.size := lt_of_get HBT5.out
 obtain ⟨b0_, -⟩ := box_cell HBX5.out (j := 0) rfl
 obtain ⟨b1_, -⟩ := box_cell HBX5.out (j := 1) rfl
 obtain ⟨b2_, -⟩ := box_cell HBX5.out (j := 2) rfl
 obtain ⟨b3_, -⟩ := box_cell HBX5.out (j := 3) rfl
 obtain ⟨t0_, -⟩ := box_cell HBT5.out (j := 0) rfl
 obtain ⟨t1_, -⟩ := box_cell HBT5.out (j := 1) rfl
 obtain ⟨t2_, -⟩ := box_cell HBT5.out (j := 2) rfl
 clear hb5 HUS4 HTA4 HB14 HA1
 go_wp2_with fail
 refine (impl_HeatRun2 _ p _ xs ys U nP cU _ _ _ tau _ om os w5 HA5.out HD.out HU.out HU2.out HUS5.out HTA5.out).mono ?_
 obtain ⟨l0,hl0⟩ : ∃ l,l = List.replicate p.mesh.points.length (rint 0) := ⟨_,rfl⟩
 rw [← hl0] at HU HU2 HUS5 ⊢
 clear hl0
 rintro _ w6 ⟨R,nR,cR,bR,rfl,hsR,hb6⟩
 obtain rfl : 2 = nR := hsR.1
 have HR6 := hid hsR
 have HBX6 := hid ((hb6.block w1.heap.size hl5).trans HBX5.out)
 have HBT6 := hid ((hb6.block w4.heap.size hm5).trans HBT5.out)
 have HA6 := hid (HA5.out.below hb6); have HUS6 := hid (HUS5.out.below hb6); have HTA6 := hid (HTA5.out.below hb6)
 have HB16 := hid (Below.next HB15.out hb6)
 clear hsR hb6 b0_ b1_ b2_ b3_ t0_ t1_ t2_ hl5 hm5 HA5 HUS5 HTA5 HB15
 have hl6 : w1.heap.size < w6.heap.size := lt_of_get HBX6.out
 have hm6 : w4.heap.size < w6.heap.size := lt_of_get HBT6.out
 obtain ⟨b0_, -⟩ := box_cell HBX6.out (j := 0) rfl
 obtain ⟨b1_, -⟩ := box_cell HBX6.out (j := 1) rfl
 obtain ⟨b2_, -⟩ := box_cell HBX6.out (j := 2) rfl
 obtain ⟨b3_, -⟩ := box_cell HBX6.out (j := 3) rfl
 obtain ⟨t0_, -⟩ := box_cell HBT6.out (j := 0) rfl
 obtain ⟨t1_, -⟩ := box_cell HBT6.out (j := 1) rfl
 obtain ⟨t2_, -⟩ := box_cell HBT6.out (j := 2) rfl
 go_wp2_with fail
 refine (impl_HeatStep _ p _ xs ys U nP cU l0 _ _ tau _ om os w6 HA6.out HD.out HU.out HUS6.out HTA6.out).mono ?_
 obtain ⟨l1,hl1⟩ : ∃ l,l = stepL p om os tau l0 := ⟨_,rfl⟩
 rw [← hl1] at HU2 HR6 ⊢
 clear hl1
 rintro _ w7 ⟨O,nO,cO,bO,rfl,hsO,hoO,hb7⟩
 have HO7 := hid hsO
 have HBX7 := hid ((hb7.block w1.heap.size hl6).trans HBX6.out)
 have HBT7 := hid ((hb7.block w4.heap.size hm6).trans HBT6.out)
 have HA7 := hid (HA6.out.below hb7); have HUS7 := hid (HUS6.out.below hb7); have HTA7 := hid (HTA6.out.below hb7); have HR7 := hid (HR6.out.below hb7)
 have HB17 := hid (Below.next HB16.out hb7)
 clear hsO hoO hb7 b0_ b1_ b2_ b3_ t0_ t1_ t2_ hl6 hm6 HA6 HUS6 HTA6 HB16 HR6
 have hl7 : w1.heap.size < w7.heap.size := lt_of_get HBX7.out
 have hm7 : w4.heap.size < w7.heap.size := lt_of_get HBT7.out
 obtain ⟨b0_, -⟩ := box_cell HBX7.out (j := 0) rfl
 obtain ⟨b1_, -⟩ := box_cell HBX7.out (j := 1) rfl
 obtain ⟨b2_, -⟩ := box_cell HBX7.out (j := 2) rfl
 obtain ⟨b3_, -⟩ := box_cell HBX7.out (j := 3) rfl
 obtain ⟨t0_, -⟩ := box_cell HBT7.out (j := 0) rfl
 obtain ⟨t1_, -⟩ := box_cell HBT7.out (j := 1) rfl
 obtain ⟨t2_, -⟩ := box_cell HBT7.out (j := 2) rfl
 go_wp2_with fail
 refine (impl_HeatStep _ p _ xs ys O nO cO l1 _ _ tau _ om os w7 HA7.out HD.out HU2.out HO7.out HTA7.out).mono ?_
 obtain ⟨l2,hl2⟩ : ∃ l,l = stepL p om os tau l1 := ⟨_,rfl⟩
 rw [← hl2] at HR7 ⊢
 clear hl2
 rintro _ w8 ⟨V,nV,cV,bV,rfl,hsV,hoV,hb8⟩
 have HV8 := hid hsV
 have HBX8 := hid ((hb8.block w1.heap.size hl7).trans HBX7.out)
 have HO8 := hid (HO7.out.below hb8); have HR8 := hid (HR7.out.below hb8)
 have HBW8 := hid (Below.next BW1.out (Below.next HB17.out hb8))
 clear hsV hoV hb8 b0_ b1_ b2_ b3_ t0_ t1_ t2_ hl7 hm7 HA7 HUS7 HTA7 HB17 HR7 HO7 HBX7 HBT7 HBX6 HBT6 HBX5 HBT5 HBX4 HBX3 HBX2
 have hl8 : w1.heap.size < w8.heap.size := lt_of_get HBX8.out
 obtain ⟨b0_, -⟩ := box_cell HBX8.out (j := 0) rfl
 obtain ⟨g,off,x1,D1,nD1,cD1,d1,rfl,hgl,hx1,q1,hd1, _⟩ := Sl.elemS HR8.out (k := 0) (by decide)
 obtain ⟨g',off',x2,D2,nD2,cD2,d2,hgg, _,hx2,q2,hd2, _⟩ := Sl.elemS HR8.out (k := 1) (by decide)
 injection hgg with hgg; injection hgg with hg1 hg2 _
 subst hg1; subst hg2
 obtain rfl : l1 = x1 := by simpa using hx1
 obtain rfl : l2 = x2 := by simpa using hx2
 obtain rfl : nO = nD1 := by rw [← hd1.1]; exact HO8.out.1.symm
 obtain rfl : nV = nD2 := by rw [← hd2.1]; exact HV8.out.1.symm
 have HD1 := hid hd1; have HD2 := hid hd2
 have hcR := HR8.out.2.1
 have hcRi : (2 : Int) ≤ cR := by omega
 clear hd1 hd2 hx1 hx2
 rw [Nat.add_zero] at q1
 go_wp2_with fail
 refine wp_region_walk (by kernel_rfl) (by kernel_rfl) (by kernel_rfl) ?_
 iterate 6
  apply walkM_eq
  case h =>
   intro yq zq wq hC hd
   obtain ⟨hcq,hfq⟩ := bcell hC
   simp at hd
   refine ⟨by go_simp; done, ?_⟩
   go_simp
   first | (go_ints; exact rfl) | (go_ints; rw [if_pos (by omega)]; try exact rfl) | exact rfl | (rw [if_pos (by omega)]; try exact rfl)
 refine walkM_call (MP.agg (innerL l1 l1)) ?_ ?_
 ·intro yq zq wq hC hd
  obtain ⟨hcq,hfq⟩ := bcell hC
  simp at hd
  refine ⟨by go_simp; done, ?_⟩
  apply Exists.intro
  apply Exists.intro
  constructor
  ·go_simp
   exact ⟨rfl,rfl⟩
  ·exact gives_agg (impl_InnerVector D1 nO cD1 l1 _ D1 cD1 l1 _ wq (HD1.out.below Below.go) (HD1.out.below Below.go))
 iterate 2
  apply walkM_eq
  case h =>
   intro yq zq wq hC hd
   obtain ⟨hcq,hfq⟩ := bcell hC
   simp at hd
   refine ⟨by go_simp; done, ?_⟩
   go_simp
   first | (go_ints; exact rfl) | (go_ints; rw [if_pos (by omega)]; try exact rfl) | exact rfl | (rw [if_pos (by omega)]; try exact rfl)
 refine walkM_call (MP.agg (innerL l1 l1)) ?_ ?_
 ·intro yq zq wq hC hd
  obtain ⟨hcq,hfq⟩ := bcell hC
  simp at hd
  refine ⟨by go_simp; done, ?_⟩
  apply Exists.intro
  apply Exists.intro
  constructor
  ·go_simp
   exact ⟨rfl,rfl⟩
  ·exact gives_agg (impl_InnerVector O nO cO l1 _ O cO l1 _ wq (HO8.out.below Below.go) (HO8.out.below Below.go))
 refine walkM_call (MP.eq (.bool true)) ?_ ?_
 ·intro yq zq wq hC hd
  obtain ⟨hcq,hfq⟩ := bcell hC
  simp at hd
  refine ⟨by go_simp; done, ?_⟩
  apply Exists.intro
  apply Exists.intro
  constructor
  ·go_simp
   exact ⟨rfl,rfl⟩
  ·exact gives_eq (by have C9 := impl_RatEqual _ _ (innerL l1 l1) (innerL l1 l1) _ _ wq (by first | exact hd.1.1 | exact hd.1) (by first | exact hd.2.1.1 | exact hd.2.1); rw [decide_eq_true rfl] at C9; exact C9)
 iterate 5
  apply walkM_eq
  case h =>
   intro yq zq wq hC hd
   obtain ⟨hcq,hfq⟩ := bcell hC
   simp at hd
   refine ⟨by go_simp; done, ?_⟩
   go_simp
   first | (go_ints; exact rfl) | (go_ints; rw [if_pos (by omega)]; try exact rfl) | exact rfl | (rw [if_pos (by omega)]; try exact rfl)
 refine walkM_call (MP.agg (innerL l2 l2)) ?_ ?_
 ·intro yq zq wq hC hd
  obtain ⟨hcq,hfq⟩ := bcell hC
  simp at hd
  refine ⟨by go_simp; done, ?_⟩
  apply Exists.intro
  apply Exists.intro
  constructor
  ·go_simp
   exact ⟨rfl,rfl⟩
  ·exact gives_agg (impl_InnerVector D2 nV cD2 l2 _ V cV l2 _ wq (HD2.out.below Below.go) (HV8.out.below Below.go))
 iterate 2
  apply walkM_eq
  case h =>
   intro yq zq wq hC hd
   obtain ⟨hcq,hfq⟩ := bcell hC
   simp at hd
   refine ⟨by go_simp; done, ?_⟩
   go_simp
   first | (go_ints; exact rfl) | (go_ints; rw [if_pos (by omega)]; try exact rfl) | exact rfl | (rw [if_pos (by omega)]; try exact rfl)
 refine walkM_call (MP.agg (innerL l2 l2)) ?_ ?_
 ·intro yq zq wq hC hd
  obtain ⟨hcq,hfq⟩ := bcell hC
  simp at hd
  refine ⟨by go_simp; done, ?_⟩
  apply Exists.intro
  apply Exists.intro
  constructor
  ·go_simp
   exact ⟨rfl,rfl⟩
  ·exact gives_agg (impl_InnerVector V nV cV l2 _ V cV l2 _ wq (HV8.out.below Below.go) (HV8.out.below Below.go))
 refine walkM_call (MP.eq (.bool true)) ?_ ?_
 ·intro yq zq wq hC hd
  obtain ⟨hcq,hfq⟩ := bcell hC
  simp at hd
  refine ⟨by go_simp; done, ?_⟩
  apply Exists.intro
  apply Exists.intro
  constructor
  ·go_simp
   exact ⟨rfl,rfl⟩
  ·exact gives_eq (by have C9 := impl_RatEqual _ _ (innerL l2 l2) (innerL l2 l2) _ _ wq (by first | exact hd.1.1 | exact hd.1) (by first | exact hd.2.1.1 | exact hd.2.1); rw [decide_eq_true rfl] at C9; exact C9)
 iterate 11
  apply walkM_eq
  case h =>
   intro yq zq wq hC hd
   obtain ⟨hcq,hfq⟩ := bcell hC
   simp at hd
   refine ⟨by go_simp; done, ?_⟩
   go_simp
   first | (go_ints; exact rfl) | (go_ints; rw [if_pos (by omega)]; try exact rfl) | exact rfl | (rw [if_pos (by omega)]; try exact rfl)
 intro yq zq wa hC hd hdis0
 have hdis := hid hdis0
 clear hdis0
 simp at hd
 go_simp
 go_wp2_with fail
 go_ret
 exact ⟨by simp,Below.next HBW8.out hC⟩

theorem own : ownKnob Tryz.prog.godebug = none := by kernel_rfl
theorem laidOut : laidOutB Tryz.prog = true := by kernel_rfl

set_option maxRecDepth 100000 in
theorem lifted (os : Os) (started : os.Started) (H : Type) (enc : TypeId × Value → H) :
  ReturnsInHanded {} Tryz.checked os 4 .any (Rows.fnHeatRunSpec.pre6 enc Tryz.prog Tryz.f4 Rows.fnHeatRunRow.domain false) (Rows.fnHeatRunSpec.post enc Tryz.prog Tryz.f4 false true false false) := by
 refine returnsInHanded_of_change (C := Tryz.checked) own started (by kernel_rfl) Tryz.func4
  (ChangeSpec.witness6 (enc := enc) (C := Tryz.checked) false ⟨#[], #[.slice none 0 0], []⟩ 8 (by kernel_rfl) (by kernel_rfl) (by kernel_rfl) (by kernel_rfl)) ?_
 intro W base args ds gs before hval0 hW hcnd _
 have hval : ∀ (j : Nat) t v,Tryz.f4.params[j]? = some t → args[j]? = some v → Value.okWide Tryz.prog W .any base t v := hval0
 have hW' := hW
 obtain ⟨p,q,hA0,hV,rfl,hfz,hnd⟩ := hW
 have hA : DataW.TrodAll enc Tryz.prog W 0 (fun _ => true) true Tryz.f4.params.toList args.toList ds p := hA0
 rw [Tryz.params4] at hA hval
 obtain ⟨v0,vs0,d0,ds0,p0,q0,hargs,rfl,rfl,h0,r0⟩ := trodAll_cons hA
 obtain ⟨rfl,rfl,rfl⟩ := trodAll_nil r0
 obtain rfl : args = #[v0] := by cases args; simp_all
 obtain ⟨rfl,rfl⟩ := trodVars_none hV
 clear hA0 hval0
 simp only [List.append_nil] at hW'
 obtain ⟨A0,n0,c0,x0,b0,rfl,g0⟩ := Opens.sl oLTByte Tryz.underlying22 (hval 0 22 v0 rfl rfl) h0
 refine (walk _ _ _ x0 b0 W g0).mono fun e W' ⟨he,hB⟩ => ?_
 subst he
 have l0 : ∀ x ∈ p0,x.block < W.heap.size := fun x hx => hW'.lt x (by simp [hx])
 refine ⟨_,rfl, _, _, _, [],p0, [],hW',trodAll_cons_mk (shut_bool Tryz.underlying4 _) trodAll_mk0, ?_,rfl,hB.frame _,fun h => by cases h⟩
 have ha := trodAll_cons_mk (Below.trod laidOut (by kernel_rfl) (of_decide_eq_true (by kernel_rfl)) h0 hB l0) trodAll_mk0
 simp only [List.append_nil] at ha
 exact ha

theorem proved : Rows.FnHeatRunSaid :=
 OpenClaim.holds_of_wide 4 Tryz.f4 rfl rfl rfl rfl rfl rfl rfl ⟨rfl,rfl,rfl,rfl,rfl⟩ rfl rfl rfl rfl rfl (by kernel_rfl) Tryz.func4 (by kernel_rfl)
  (of_decide_eq_true (by kernel_rfl)) (by unfold Func.isWrapper; first | (rw [if_pos (by decide +kernel)]; kernel_rfl) | (rw [if_neg (by decide +kernel)]; exact ⟨rfl,rfl⟩))
  (fun os started H enc _ => lifted os started H enc)
#print axioms proved
end Go.Proofs.YtpfipnankjeokaaGreat.fnHeatRun
