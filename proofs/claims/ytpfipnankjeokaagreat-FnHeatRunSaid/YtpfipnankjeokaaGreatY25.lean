/- Part of a claim's proof: texts of this repository's wip,joined by prune.py,without the theorems that the claim does not reach. -/
import Derived.Test.YtpfipnankjeokaaGreatY24
import Derived.Test.YtpfipnankjeokaaGreatY13
import Derived.Laws.Cover3
import Derived.Test.YtpfipnankjeokaaGreatY18
set_option linter.constructorNameAsVariable false
namespace Go.Proofs.YtpfipnankjeokaaGreat.X
open Go.RowKit Go.XB Go.XN
def stiffE (a b c : TPoint) (i j : Nat) : TRat := rmul (areaP a b c) (inner ((gradL a b c).getD i pt0) ((gradL a b c).getD j pt0))
def stiffRowTo (a b c : TPoint) (i : Nat) : Nat → List TRat
 | 0 => []
 | j + 1 => stiffRowTo a b c i j ++ [stiffE a b c i j]
def stiffTo (a b c : TPoint) : Nat → List (List TRat)
 | 0 => []
 | i + 1 => stiffTo a b c i ++ [stiffRowTo a b c i 3]
def stiffL (a b c : TPoint) : List (List TRat) := stiffTo a b c 3
theorem stiffRowTo_len (a b c : TPoint) (i : Nat) : ∀ j,(stiffRowTo a b c i j).length = j
 | 0 => rfl
 | j + 1 => by rw [stiffRowTo,List.length_append,stiffRowTo_len a b c i j]; rfl
theorem stiffTo_row (a b c : TPoint) : ∀ k, ∀ r ∈ stiffTo a b c k,r.length = 3
 | 0,r,h => by simp [stiffTo] at h
 | k + 1,r,h => by
  rw [stiffTo] at h
  rcases List.mem_append.1 h with h | h
  ·exact stiffTo_row a b c k r h
  ·simp at h; rw [h]; exact stiffRowTo_len a b c k 3
theorem stiffTo_len (a b c : TPoint) : ∀ k,(stiffTo a b c k).length = k
 | 0 => rfl
 | k + 1 => by rw [stiffTo,List.length_append,stiffTo_len a b c k]; rfl
theorem Pend.rr {w wb wr : World} {gB i cap : Nat} {ps : List TRat} (h : Pend w wb 32 wr gB i cap ps) : RR (fun b => b < w.heap.size ∨ b = gB) wr gB i cap ps := by
 obtain ⟨cells,fss,h1,h2,h3,h4,h5,h6,h7,h8⟩ := h
 exact ⟨cells,fss,ownsRow_zero h1,h2,h3,fun b hb hbad => by
  rcases hbad with hbad | rfl
  ·have := (h4.2 b hb).1; omega
  ·exact h5 hb, .inr rfl⟩
attribute [local go_sem] fillBy Go.XB.opAt deps depOf Region.wanted yielded
attribute [local simp] deps depOf MP.eq MP.agg MP.sl MP.slbox Facts
theorem eql_nil_pts (w : World) (a : Option Addr) (l c : Nat) : (binOp .eql 23 (.slice a l c) (.slice none 0 0)).run Tryz.prog w = .ok (.bool a.isNone) w := by
 simp [binOp,run_equal_slice_nil w 23 _ a l c Tryz.underlying23]
theorem eql_nil_rows (w : World) (a : Option Addr) (l c : Nat) : (binOp .eql 55 (.slice a l c) (.slice none 0 0)).run Tryz.prog w = .ok (.bool a.isNone) w := by
 simp [binOp,run_equal_slice_nil w 55 _ a l c Tryz.underlying55]
theorem eql_nil_rats (w : World) (a : Option Addr) (l c : Nat) : (binOp .eql 36 (.slice a l c) (.slice none 0 0)).run Tryz.prog w = .ok (.bool a.isNone) w := by
 simp [binOp,run_equal_slice_nil w 36 _ a l c Tryz.underlying36]
attribute [local go_sem] eql_nil_pts
set_option maxHeartbeats 8000000 in
set_option maxRecDepth 10000 in
theorem impl_LocalStiffness (A : Option Addr) (c : Nat) (a1 b1 c1 : TPoint) (bs : List Nat) (w : World) (hx : Sl w A 3 c [a1,b1,c1] bs) (hg : GradOk a1 b1 c1) (hall : ∀ r ∈ stiffL a1 b1 c1,r.any denBad = false) :
  Calls Tryz.prog 157 #[.slice A 3 c] w (GivesM w (stiffL a1 b1 c1) 3) := by
 have HX := hid hx; have HG := hid hg; have HALL := hid hall
 obtain ⟨i0,hi,hz0,hz1,hz2⟩ := info_parts infoRw
 obtain ⟨i1,gi,gz0,gz1,gz2⟩ := info_parts infoRt
 clear hx hg hall
 go_enter Tryz.func157,Tryz.ntmps157
 go_wp2_with fail
 refine (impl_Gradients A c a1 b1 c1 bs _ HX.out HG.out).mono ?_
 rintro _ w1 ⟨E,nE,cE,eb,rfl,hse,hoe,hb1⟩
 obtain rfl : 3 = nE := by rw [← hse.1]; exact (gradTo_len a1 b1 c1 3).symm
 obtain ⟨eg,eo, _,rfl, _, _⟩ := hse.2.2.2.2 (by decide)
 have HSE := hid hse; have HB1 := hid hb1
 have hegl : eg < w1.heap.size := by
  obtain ⟨bq,oq,xq, _, _,hAq,hbq, _⟩ := Sl.getAt hse (show 0 < 3 by decide)
  injection hAq with hAq; injection hAq with h1 _ _; omega
 clear hse hoe hb1
 go_wp2_with fail
 have P0 := hid (MSt.start (n := 3) HB1.out)
 go_loopg [4,17] 3 (fun g s4 s wr => ∃ (i gB cap : Nat) (gs : List (Nat × Nat)),i + g = 3 ∧ s = .int .i64 i ∧ s4 = .slice (some ⟨gB,0,none⟩) i cap ∧ Hid (MSt w wr gB i cap 3 gs (stiffTo a1 b1 c1 i)) ∧ Hid (Below w1.heap.size w1 wr) ∧ Hid (w1.heap.size ≤ gB))
 case atStart => exact ⟨0,w1.heap.size,0, [],by omega,rfl,rfl,P0.out,Below.box _,Nat.le_refl _⟩
 case round =>
  clear P0
  obtain ⟨i,gB,cap,gs,hik,rfl,rfl,HP,HB3,HGB⟩ := hrel
  rename World => w3
  rcases Nat.lt_or_ge i 3 with hin | hin
  ·have hii : (i : Int) < 3 := by omega
   have hii0 : (0 : Int) ≤ i := by omega
   obtain ⟨g,rfl⟩ : ∃ g,gk = g + 1 := ⟨gk - 1,by omega⟩
   have hi' := hid (show i + 1 + g = 3 by omega)
   have hi3 : i + 1 ≤ 3 := hin
   have C3 := hid (show i + 1 ≤ maxLen by unfold maxLen; omega)
   have C4 := hid (show (i + 1) * 24 ≤ 140737488355328 by omega)
   obtain ⟨bj,oj,x,J1,nJ1,cJ1,jj1,J2,nJ2,cJ2,jj2,J4,nJ4,cJ4,jj4,J5,nJ5,cJ5,jj5,hAj,hblj,hxj,Je0,Je1,Je2,Je3,Je4,Je5,hgj⟩ := TPoint.elemA (HSE.out.below HB3.out) hin
   injection hAj with hAj; injection hAj with h1 h2 _; subst h1; subst h2
   have HGJ := hid hgj
   have EX := hid (show (gradL a1 b1 c1).getD i pt0 = x from getD_of hxj)
   clear hik hin hxj hgj
   go_wp2_with fail
   obtain ⟨wp,hwp⟩ : ∃ wp,wp = w3.alloc (.cells #[.bool x.x.num.neg, .slice J1 nJ1 cJ1, .slice J2 nJ2 cJ2, .bool x.y.num.neg, .slice J4 nJ4 cJ4, .slice J5 nJ5 cJ5] 34) := ⟨_,rfl⟩
   have HWP := hid (show Below w3.heap.size w3 wp by rw [hwp]; exact Below.box _)
   have hpw : w3.heap.size < wp.heap.size := by rw [hwp]; simp
   have p0 : wp.cell? ⟨w3.heap.size,0,none⟩ = some (.bool x.x.num.neg) := by rw [hwp]; go_simp
   have p1 : wp.cell? ⟨w3.heap.size,1,none⟩ = some (.slice J1 nJ1 cJ1) := by rw [hwp]; go_simp
   have p2 : wp.cell? ⟨w3.heap.size,2,none⟩ = some (.slice J2 nJ2 cJ2) := by rw [hwp]; go_simp
   have p3 : wp.cell? ⟨w3.heap.size,3,none⟩ = some (.bool x.y.num.neg) := by rw [hwp]; go_simp
   have p4 : wp.cell? ⟨w3.heap.size,4,none⟩ = some (.slice J4 nJ4 cJ4) := by rw [hwp]; go_simp
   have p5 : wp.cell? ⟨w3.heap.size,5,none⟩ = some (.slice J5 nJ5 cJ5) := by rw [hwp]; go_simp
   rw [← hwp]
   have hwps : (w3.alloc (.cells #[.bool x.x.num.neg, .slice J1 nJ1 cJ1, .slice J2 nJ2 cJ2, .bool x.y.num.neg, .slice J4 nJ4 cJ4, .slice J5 nJ5 cJ5] 34)).heap.size = wp.heap.size := by rw [hwp]
   have R0 := hid (Pend.start (α := TRat) (e := 32) HWP.out)
   have HW1P := hid (show w3.heap.size + 1 = wp.heap.size by rw [hwp]; simp)
   clear hwp hwps
   go_loopg [7,24] 3 (fun g2 s7 s w4 => ∃ (j gR cR : Nat),j + g2 = 3 ∧ s = .int .i64 j ∧ s7 = .slice (some ⟨gR,0,none⟩) j cR ∧ Hid (Pend w3 wp 32 w4 gR j cR (stiffRowTo a1 b1 c1 i j)))
   case atStart => exact ⟨0,wp.heap.size,0,by omega,rfl,by rw [HW1P.out],R0.out⟩
   case round =>
    clear R0
    obtain ⟨j,gR,cR,hjk,rfl,rfl,HR⟩ := hrel
    rcases Nat.lt_or_ge j 3 with hjn | hjn
    ·have hjj : (j : Int) < 3 := by omega
     have hjj0 : (0 : Int) ≤ j := by omega
     obtain ⟨g2,rfl⟩ : ∃ g2,gk = g2 + 1 := ⟨gk - 1,by omega⟩
     have hj' := hid (show j + 1 + g2 = 3 by omega)
     have hj3 : j + 1 ≤ 3 := hjn
     have D3 := hid (show j + 1 ≤ maxLen by unfold maxLen; omega)
     have D4 := hid (show (j + 1) * 56 ≤ 140737488355328 by omega)
     have HB4 := hid HR.out.bw
     have HB1r := hid (Below.next HB3.out HB4.out)
     have HB0r := hid (Below.next HB1.out HB1r.out)
     have hpr : w3.heap.size < wr.heap.size := by have := HR.out.bb.size; omega
     have r0 : wr.cell? ⟨w3.heap.size,0,none⟩ = some (.bool x.x.num.neg) := (HR.out.bb.cell (p := ⟨w3.heap.size,0,none⟩) hpw).trans p0
     have r1 : wr.cell? ⟨w3.heap.size,1,none⟩ = some (.slice J1 nJ1 cJ1) := (HR.out.bb.cell (p := ⟨w3.heap.size,1,none⟩) hpw).trans p1
     have r2 : wr.cell? ⟨w3.heap.size,2,none⟩ = some (.slice J2 nJ2 cJ2) := (HR.out.bb.cell (p := ⟨w3.heap.size,2,none⟩) hpw).trans p2
     have r3 : wr.cell? ⟨w3.heap.size,3,none⟩ = some (.bool x.y.num.neg) := (HR.out.bb.cell (p := ⟨w3.heap.size,3,none⟩) hpw).trans p3
     have r4 : wr.cell? ⟨w3.heap.size,4,none⟩ = some (.slice J4 nJ4 cJ4) := (HR.out.bb.cell (p := ⟨w3.heap.size,4,none⟩) hpw).trans p4
     have r5 : wr.cell? ⟨w3.heap.size,5,none⟩ = some (.slice J5 nJ5 cJ5) := (HR.out.bb.cell (p := ⟨w3.heap.size,5,none⟩) hpw).trans p5
     obtain ⟨bk,ok,y,K1,nK1,cK1,kk1,K2,nK2,cK2,kk2,K4,nK4,cK4,kk4,K5,nK5,cK5,kk5,hAk,hblk,hxk,Ke0,Ke1,Ke2,Ke3,Ke4,Ke5,hgk⟩ := TPoint.elemA (HSE.out.below HB1r.out) hjn
     injection hAk with hAk; injection hAk with h1 h2 _; subst h1; subst h2
     have HGK := hid hgk
     have EY := hid (show (gradL a1 b1 c1).getD j pt0 = y from getD_of hxk)
     have NX := hid (show stiffRowTo a1 b1 c1 i (j + 1) = stiffRowTo a1 b1 c1 i j ++ [rmul (areaP a1 b1 c1) (inner x y)] by rw [stiffRowTo,stiffE,EX.out,EY.out])
     clear hjk hjn hxk hgk p0 p1 p2 p3 p4 p5
     go_wp2_with fail
     have HBx := hid (show Below wr.heap.size wr (wr.alloc (.cells #[.bool y.x.num.neg, .slice K1 nK1 cK1, .slice K2 nK2 cK2, .bool y.y.num.neg, .slice K4 nK4 cK4, .slice K5 nK5 cK5] 34)) from Below.go)
     refine wp_region_line 8 (by kernel_rfl) (by kernel_rfl) (by kernel_rfl) (by kernel_rfl) (by kernel_rfl) ?_
     simp only [List.take_succ_cons,List.take_zero,List.drop_succ_cons,List.drop_zero]
     iterate 2
      apply walkM_eq
      case h =>
       intro yq zq wq hC hd
       obtain ⟨hcq,hfq⟩ := bcell hC
       simp at hd
       refine ⟨by go_simp; done, ?_⟩
       go_simp
       first | (go_ints; exact rfl) | (go_ints; rw [if_pos (by omega)]; try exact rfl) | exact rfl | (rw [if_pos (by omega)]; try exact rfl)
     refine walkM_call (MP.agg (areaP a1 b1 c1)) ?_ ?_
     ·intro yq zq wq hC hd
      obtain ⟨hcq,hfq⟩ := bcell hC
      simp at hd
      refine ⟨by go_simp; done, ?_⟩
      apply Exists.intro
      apply Exists.intro
      constructor
      ·go_simp
       exact ⟨rfl,rfl⟩
      ·exact gives_agg (impl_area A c a1 b1 c1 bs wq ((HX.out.below HB0r.out).below (Below.next HBx.out hC)))
     iterate 2
      apply walkM_eq
      case h =>
       intro yq zq wq hC hd
       obtain ⟨hcq,hfq⟩ := bcell hC
       simp at hd
       refine ⟨by go_simp; done, ?_⟩
       go_simp
       first | (go_ints; exact rfl) | (go_ints; rw [if_pos (by omega)]; try exact rfl) | exact rfl | (rw [if_pos (by omega)]; try exact rfl)
     refine walkM_call (MP.agg (inner x y)) ?_ ?_
     ·intro yq zq wq hC hd
      obtain ⟨hcq,hfq⟩ := bcell hC
      simp at hd
      refine ⟨by go_simp; done, ?_⟩
      apply Exists.intro
      apply Exists.intro
      constructor
      ·go_simp
       exact ⟨rfl,rfl⟩
      ·exact gives_agg (impl_Inner _ _ x y _ _ wq ((HGJ.out.below HB4.out).below (Below.next HBx.out hC)) (HGK.out.below (Below.next HBx.out hC)))
     refine walkM_call (MP.agg (rmul (areaP a1 b1 c1) (inner x y))) ?_ ?_
     ·intro yq zq wq hC hd
      obtain ⟨hcq,hfq⟩ := bcell hC
      simp at hd
      refine ⟨by go_simp; done, ?_⟩
      apply Exists.intro
      apply Exists.intro
      constructor
      ·go_simp
       exact ⟨rfl,rfl⟩
      ·obtain ⟨t1,t2, _⟩ := hd
       exact gives_agg (impl_RatMul _ _ (areaP a1 b1 c1) (inner x y) _ _ wq t1.1 t2)
     refine walkM_runD (fun y' => MP.slbox (y' 6).cells 32) (by intro y y' h; simp [deps,depOf] at h; simp [h]) ?_ ?_
     ·intro yq zq wq hC hd
      simp at hd
      obtain ⟨D1,nD1,cD1,d1,D2,nD2,cD2,d2,e13, _, _, _⟩ := TRat.agg hd.1
      refine ⟨by go_simp; done, .slice (some ⟨wq.heap.size,0,none⟩) 1 1,wq.alloc (.cells (yq 6).cells 32), ?_,Below.box _, [wq.heap.size],⟨wq.heap.size,rfl,rfl,heap_alloc_new wq _⟩,by simp⟩
      rw [e13]
      go_simp
     intro yq zq wa hC hd hdis0
     have hdis := hid hdis0
     clear hdis0
     simp at hd
     have q0 := hd.1
     have q6 := hd.2.2.2.2.2.2.1
     have q7 := hd.2.2.2.2.2.2.2
     obtain ⟨⟨ha,hf⟩,hr⟩ := q6
     obtain ⟨G1,nG1,cG1,g1,G2,nG2,cG2,g2',e15,z15,m1,m2⟩ := TRat.agg ha
     obtain ⟨⟨gn,e16,z16,hgn⟩,hr16⟩ := q7
     rw [e15] at hgn ha
     have AT := hid (rat_dat ha)
     have HF := hid hf
     have HBa := hid (show Below wr.heap.size wr wa from Below.next HBx.out hC)
     have HFR := hid (show ∀ b ∈ zq 6,wr.heap.size ≤ b from fun b hb => by have := (hr b hb).1; (try simp at this); omega)
     have HGN := hid hgn
     have e0 : yq 0 = .slice (some ⟨gR,0,none⟩) j cR := q0.1.1
     generalize zq 6 = r6 at *
     clear hd hdis ha hf hr z15 m1 m2 hgn hr16 z16 q0 hC
     go_wp2_with (at_builtin; refine wpList_pend rfl _ _ 36 rfl 32 i1 (.agg #[.bool false, .slice none 0 0, .slice none 0 0]) 56 Tryz.underlying36 gi gz0 gz1 gz2 rfl HR.out HBa.out (by go_simp; done) ⟨gn,0,none⟩ 1 [.bool (rmul (areaP a1 b1 c1) (inner x y)).num.neg, .slice G1 nG1 cG1, .slice G2 nG2 cG2] (rmul (areaP a1 b1 c1) (inner x y)) r6 (by go_simp; done) (block_cells HGN.out) AT.out HF.out HFR.out D3.out D4.out ?_; intro g' cap' w8 hp' hgrow' hor')
     have HP8 := hid (show Pend w3 wp 32 w8 g' (j + 1) cap' (stiffRowTo a1 b1 c1 i (j + 1)) by rw [NX.out]; exact hp')
     clear hp' hgrow' hor' AT HF HR HFR
     go_wp2_with fail
     go_roundg g2
     case measure => omega
     case rel => exact ⟨j + 1,g',cap',hj'.out,by go_num,rfl,HP8⟩
    ·obtain rfl : j = 3 := by omega
     have HRR := hid (Pend.rr HR.out)
     have hgr := HR.out.lt
     have hpw2 := HWP.out.size
     have HB7 := hid HR.out.bw
     have HW := hid (show w.heap.size ≤ (wr.alloc (.cells #[.slice (some ⟨gR,0,none⟩) 3 cR] 36)).heap.size by have := HP.out.bl.size; have := HB7.out.size; simp; omega)
     clear hjk hjn p0 p1 p2 p3 p4 p5
     go_wp2_with (at_builtin; refine wpList_push rfl _ _ 55 rfl w.heap.size 36 i0 (.slice none 0 0) 1 24 Tryz.underlying55 hi hz0 hz1 hz2 rfl (by decide) gB i cap (gs.map fun g => .slice (some ⟨g.1,0,none⟩) 3 g.2) (by go_simp; done) (ownsRow_below HP.out.ou (Below.next HB7.out (Below.box _))) ⟨wr.heap.size,0,none⟩ 1 1 [.slice (some ⟨gR,0,none⟩) 3 cR] (by go_simp; done) rfl (block_cells (heap_alloc_new wr _)) (by simp [Value.oneCell']) C3.out C4.out HW.out ?_; intro g' cap' w8 hown' hgrow' hor')
     have HP8 := hid (show MSt w w8 g' (i + 1) cap' 3 (gs ++ [(gR,cR)]) (stiffTo a1 b1 c1 (i + 1)) from HP.out.push (Below.next HB7.out (Below.box _)) (HRR.out.below (Below.box _)) (by omega) hown' hgrow' hor')
     have HB8 := hid (show Below w1.heap.size w1 w8 from ((Below.next HB3.out (Below.next HB7.out (Below.box _)))).grown hgrow' (by have := HB3.out.size; have := HB7.out.size; simp; omega) (fun k2 hk2 => by injection hk2 with e; subst e; exact HGB.out))
     have HGN' := hid (show w1.heap.size ≤ g' by have h1 := HGB.out; have h2 := HB3.out.size; have h3 := HB7.out.size; rcases hor' with e | e; omega; simp at e; omega)
     clear hown' hgrow' hor' HP HRR hgr
     go_wp2_with fail
     go_roundg g
     case measure => omega
     case rel => exact ⟨i + 1,g',cap', _,hi'.out,by go_num,rfl,HP8,HB8,HGN'⟩
  ·obtain rfl : i = 3 := by omega
   obtain ⟨rb,hs7, _⟩ := HP.out.sl
   have HS := hid hs7
   clear hik hin hs7
   go_wp2_with fail
   refine (impl_ifSquare _ 3 cap (stiffL a1 b1 c1) rb w3 HS.out (fun r hr => by rw [stiffTo_row a1 b1 c1 3 r hr]; decide) HALL.out).mono ?_
   rintro _ w9 ⟨rfl,hb9⟩
   have HB9 := hid hb9
   clear hb9
   go_wp2
   go_ret
   exact ⟨_, _, _,rfl,HP.out.below HB9.out⟩
end Go.Proofs.YtpfipnankjeokaaGreat.X
namespace Go.Proofs.YtpfipnankjeokaaGreat.X
open Go.RowKit Go.XB Go.XN
def GivesMat (w : World) (M : List (List TRat)) (e : Ending) (w' : World) : Prop := ∃ A n c bs,e = .returned (.slice A n c) ∧ Sl w' A n c M bs ∧ (∀ b ∈ bs,w.heap.size ≤ b) ∧ Below w.heap.size w w'
def massT (m : TMesh) (t : TTri) : List (List TRat) := massL (ptAt m.points t.a) (ptAt m.points t.b) (ptAt m.points t.c)
def stiffM (m : TMesh) (t : TTri) : List (List TRat) := stiffL (ptAt m.points t.a) (ptAt m.points t.b) (ptAt m.points t.c)
def rowSc (d : TRat) (r : List TRat) : Nat → List TRat
 | 0 => r
 | j + 1 => (rowSc d r j).set j (rmul d (r.getD j zeroR))
def matSc (d : TRat) (M : List (List TRat)) : Nat → List (List TRat)
 | 0 => M
 | i + 1 => (matSc d M i).set i (rowSc d (M.getD i []) 3)
theorem rowSc_len (d : TRat) (r : List TRat) : ∀ j,(rowSc d r j).length = r.length
 | 0 => rfl
 | j + 1 => by rw [rowSc,List.length_set,rowSc_len d r j]
theorem rowSc_get (d : TRat) (r : List TRat) : ∀ j k,j ≤ k → (rowSc d r j)[k]? = r[k]?
 | 0, _, _ => rfl
 | j + 1,k,h => by rw [rowSc,List.getElem?_set_ne (by omega),rowSc_get d r j k (by omega)]
theorem matSc_len (d : TRat) (M : List (List TRat)) : ∀ i,(matSc d M i).length = M.length
 | 0 => rfl
 | i + 1 => by rw [matSc,List.length_set,matSc_len d M i]
theorem matSc_get (d : TRat) (M : List (List TRat)) : ∀ i k,i ≤ k → (matSc d M i)[k]? = M[k]?
 | 0, _, _ => rfl
 | i + 1,k,h => by rw [matSc,List.getElem?_set_ne (by omega),matSc_get d M i k (by omega)]
structure TriOk (m : TMesh) (t : TTri) : Prop where
 it : triIn m.points.length t
 pr : properB [ptAt m.points t.a,ptAt m.points t.b,ptAt m.points t.c] = true
 ar : ratOkB (areaP (ptAt m.points t.a) (ptAt m.points t.b) (ptAt m.points t.c)) = true
attribute [local go_sem] fillBy Go.XB.opAt deps depOf Region.wanted yielded
attribute [local simp] deps depOf MP.eq MP.agg MP.aggS MP.sl MP.slbox Facts
theorem known_MassOf_1 : Known 146 := fun a w => by kernel_rfl
theorem known_stiffness_1 : Known 156 := fun a w => by kernel_rfl
set_option maxHeartbeats 2000000 in
theorem impl_MassOf_1 (k bx : Nat) (A0 : Option Addr) (n0 c0 : Nat) (A1 : Option Addr) (n1 c1 : Nat) (m : TMesh) (s : List Nat) (t : TTri) (w : World) (hx : Agg w (.agg #[.slice A0 n0 c0, .slice A1 n1 c1]) m s) (q0 : w.cell? ⟨bx,0,none⟩ = some (.slice A0 n0 c0)) (q1 : w.cell? ⟨bx,1,none⟩ = some (.slice A1 n1 c1))
  (hk : m.triangles[k]? = some t) (ht : TriOk m t) (hall : m.points.all ptOkB = true) (h40 : m.points.length ≤ 40) (h48 : m.triangles.length ≤ 48) (hden : ∀ r ∈ massT m t,r.any denBad = false) :
  Calls Tryz.prog 146 #[.int .i64 k, .pointer (some ⟨bx,0,none⟩)] w (GivesMat w (massT m t)) := by
 have HX := hid hx; have HK := hid hk; have HT := hid ht; have HALL := hid hall; have H40 := hid h40; have H48 := hid h48; have HD := hid hden
 clear hx hk ht hall h40 h48 hden
 go_enter Tryz.func146,Tryz.ntmps146
 go_wp2_with fail
 refine (impl_Corners _ m _ k t w HX.out HK.out HT.out.it HALL.out H40.out H48.out).mono ?_
 rintro _ w1 ⟨E,nE,cE,eb,rfl,hse,hoe,hb1⟩
 obtain rfl : 3 = nE := hse.1
 have HSE := hid hse; have HB1 := hid hb1
 clear hse hoe hb1
 go_wp2_with fail
 refine (impl_LocalMass E cE (ptAt m.points t.a) (ptAt m.points t.b) (ptAt m.points t.c) eb w1 HSE.out HT.out.pr HT.out.ar HD.out).mono ?_
 rintro _ w2 ⟨F,nF,cF,fb,rfl,hsf,hof,hb2⟩
 have HSF := hid hsf; have HB2 := hid (Below.next HB1.out hb2)
 have HNF := hid (show ∀ b ∈ fb,w.heap.size ≤ b from fun b hb => by have h1 := (hof.2 b hb).1; have h2 := HB1.out.size; omega)
 clear hsf hof hb2
 go_wp2
 go_ret
 exact ⟨F,nF,cF,fb,rfl,HSF.out,HNF.out,HB2.out⟩
set_option maxHeartbeats 8000000 in
set_option maxRecDepth 10000 in
theorem impl_stiffness_1 (k bx : Nat) (A0 : Option Addr) (n0 c0 : Nat) (A1 : Option Addr) (n1 c1 : Nat) (A2 : Option Addr) (n2 c2 : Nat) (A3 : Option Addr) (n3 c3 : Nat) (p : TProblem) (s : List Nat) (t : TTri) (w : World) (hx : Agg w (.agg #[.slice A0 n0 c0, .slice A1 n1 c1, .slice A2 n2 c2, .slice A3 n3 c3]) p s)
  (q0 : w.cell? ⟨bx,0,none⟩ = some (.slice A0 n0 c0)) (q1 : w.cell? ⟨bx,1,none⟩ = some (.slice A1 n1 c1)) (q2 : w.cell? ⟨bx,2,none⟩ = some (.slice A2 n2 c2)) (q3 : w.cell? ⟨bx,3,none⟩ = some (.slice A3 n3 c3)) (hbx : bx < w.heap.size)
  (hk : p.mesh.triangles[k]? = some t) (ht : TriOk p.mesh t) (hg : GradOk (ptAt p.mesh.points t.a) (ptAt p.mesh.points t.b) (ptAt p.mesh.points t.c)) (hall : p.mesh.points.all ptOkB = true) (h40 : p.mesh.points.length ≤ 40) (h48 : p.mesh.triangles.length ≤ 48) (hden : ∀ r ∈ stiffM p.mesh t,r.any denBad = false)
  (hdl : p.diffusion.length = 3) (hrg : 0 ≤ t.region ∧ t.region < 3) :
  Calls Tryz.prog 156 #[.int .i64 k, .pointer (some ⟨bx,0,none⟩)] w (GivesMat w (matSc (p.diffusion.getD t.region.toNat zeroR) (stiffM p.mesh t) 3)) := by
 have HX := hid hx; have HK := hid hk; have HT := hid ht; have HG := hid hg; have HALL := hid hall; have H40 := hid h40; have H48 := hid h48; have HD := hid hden; have HDL := hid hdl; have HRG := hid hrg
 obtain ⟨B0,m0,d0,s0,B1,m1,d1,s1,B2,m2,d2,s2,B3,m3,d3,s3,e, _,hs0,hs1,hs2,hs3⟩ := TProblem.agg hx
 injection e with e
 simp at e
 obtain ⟨⟨rfl,rfl,rfl⟩,⟨rfl,rfl,rfl⟩,⟨rfl,rfl,rfl⟩,rfl,rfl,rfl⟩ := e
 have HM := hid (TMesh.mkAgg (x := p.mesh) hs0 hs1)
 obtain ⟨dd,hdd⟩ : ∃ dd,p.diffusion.getD t.region.toNat zeroR = dd := ⟨_,rfl⟩
 have HDD := hid hdd
 obtain ⟨M,hM⟩ : ∃ M,stiffM p.mesh t = M := ⟨_,rfl⟩
 have HMM := hid hM
 rw [hdd,hM]
 have HR3 := hid (show ∀ r ∈ M,r.length = 3 by rw [← hM]; exact stiffTo_row _ _ _ 3)
 have HL3 := hid (show M.length = 3 by rw [← hM]; exact stiffTo_len _ _ _ 3)
 clear hx hk ht hg hall h40 h48 hden hdl hrg hs0 hs1 hs2 hs3 hdd hM
 go_enter Tryz.func156,Tryz.ntmps156
 go_wp2_with fail
 refine (impl_Corners _ p.mesh _ k t w HM.out HK.out HT.out.it HALL.out H40.out H48.out).mono ?_
 rintro _ w1 ⟨E,nE,cE,eb,rfl,hse,hoe,hb1⟩
 obtain rfl : 3 = nE := hse.1
 have HSE := hid hse; have HB1 := hid hb1
 clear hse hoe hb1
 go_wp2_with fail
 refine (impl_LocalStiffness E cE (ptAt p.mesh.points t.a) (ptAt p.mesh.points t.b) (ptAt p.mesh.points t.c) eb w1 HSE.out HG.out (by rw [show stiffL _ _ _ = stiffM p.mesh t from rfl]; exact HD.out)).mono ?_
 rw [show stiffL _ _ _ = stiffM p.mesh t from rfl,HMM.out]
 rintro _ w2 ⟨o,cap,gs,rfl,hst⟩
 have HST := hid hst
 have HB2 := hid (Below.next HB1.out hst.bl)
 obtain ⟨hc_2,hf_2⟩ := bcell HB2.out
 have hb2x : bx < w2.heap.size := by have := HB2.out.size; omega
 clear hst
 go_wp2_with fail
 go_loopg [15] 3 (fun g s wr => ∃ i : Nat,i + g = 3 ∧ s = .int .i64 i ∧ Hid (MSt w1 wr o 3 cap 3 gs (matSc dd M i)))
 case atStart => exact ⟨0,by omega,rfl,HST.out⟩
 case round =>
  clear HST hc_2 hf_2 hb2x
  obtain ⟨i,hik,rfl,HS⟩ := hrel
  rename World => w3
  rcases Nat.lt_or_ge i 3 with hin | hin
  ·have hii : (i : Int) < 3 := by omega
   have hii0 : (0 : Int) ≤ i := by omega
   obtain ⟨g,rfl⟩ : ∃ g,gk = g + 1 := ⟨gk - 1,by omega⟩
   have hi' := hid (show i + 1 + g = 3 by omega)
   have hi3 : i + 1 ≤ 3 := hin
   obtain ⟨gr,cr,r0,hgr,hr0,hcr,hol, _, _⟩ := HS.out.row hin
   have hr0M : M[i]? = some r0 := by rw [← matSc_get dd M i i (Nat.le_refl _)]; exact hr0
   have HGR := hid hgr
   have HR0 := hid (show M.getD i [] = r0 from getD_of hr0M)
   have hrl := HR3.out r0 (List.mem_of_getElem? hr0M)
   have S0 := hid (show MSt w1 w3 o 3 cap 3 gs ((matSc dd M i).set i (rowSc dd r0 0)) by
    rw [show (matSc dd M i).set i (rowSc dd r0 0) = matSc dd M i from ?_]; exact HS.out
    exact List.ext_getElem? fun k => by
     by_cases h : i = k
     ·subst h; rw [List.getElem?_set_self (by rw [matSc_len,HL3.out]; exact hin)]; exact hr0.symm
     ·rw [List.getElem?_set_ne h])
   clear hik hin hgr hr0 hr0M
   go_wp2_with fail
   go_loopg [21] 3 (fun g2 s wr => ∃ j : Nat,j + g2 = 3 ∧ s = .int .i64 j ∧ Hid (MSt w1 wr o 3 cap 3 gs ((matSc dd M i).set i (rowSc dd r0 j))))
   case atStart => exact ⟨0,by omega,rfl,S0.out⟩
   case round =>
    clear S0
    obtain ⟨j,hjk,rfl,HS4⟩ := hrel
    have HBr := hid (Below.next HB1.out HS4.out.bl)
    have hbxr : bx < wr.heap.size := by have := HBr.out.size; omega
    have r0' : wr.cell? ⟨bx,0,none⟩ = some (.slice A0 n0 c0) := (HBr.out.cell (p := ⟨bx,0,none⟩) hbx).trans q0
    have r1' : wr.cell? ⟨bx,1,none⟩ = some (.slice A1 n1 c1) := (HBr.out.cell (p := ⟨bx,1,none⟩) hbx).trans q1
    have r2' : wr.cell? ⟨bx,2,none⟩ = some (.slice A2 n2 c2) := (HBr.out.cell (p := ⟨bx,2,none⟩) hbx).trans q2
    have r3' : wr.cell? ⟨bx,3,none⟩ = some (.slice A3 n3 c3) := (HBr.out.cell (p := ⟨bx,3,none⟩) hbx).trans q3
    rcases Nat.lt_or_ge j 3 with hjn | hjn
    ·have hjj : (j : Int) < 3 := by omega
     have hjj0 : (0 : Int) ≤ j := by omega
     obtain ⟨g2,rfl⟩ : ∃ g2,gk = g2 + 1 := ⟨gk - 1,by omega⟩
     have hj' := hid (show j + 1 + g2 = 3 by omega)
     have hj3 : j + 1 ≤ 3 := hjn
     obtain ⟨gr',cr',r',hg',hr', _,hol',hRR,hne⟩ := HS4.out.row (show i < 3 by omega)
     obtain ⟨rfl,rfl⟩ : gr = gr' ∧ cr = cr' := by have := HGR.out; rw [hg'] at this; cases this; exact ⟨rfl,rfl⟩
     obtain rfl : rowSc dd r0 j = r' := by rw [List.getElem?_set_self (by rw [matSc_len,HL3.out]; omega)] at hr'; exact Option.some.inj hr'
     obtain ⟨x,G1,m1',d1',G2,m2',d2',fs,hx,e0,e1,e2,f0,f1,f2,hag, _,hgl⟩ := hRR.elem hjn
     rw [rowSc_get dd r0 j j (Nat.le_refl _)] at hx
     have NX := hid (show rowSc dd r0 (j + 1) = (rowSc dd r0 j).set j (rmul dd x) by rw [rowSc,getD_of hx])
     have HAG := hid hag
     have HR' := hid hr'
     clear hjk hjn hx hag hr' hg' hRR
     go_wp2_with fail
     refine wp_region_last (by simp) (by kernel_rfl) (by kernel_rfl) (by kernel_rfl) (by kernel_rfl) ?_
     dsimp only [List.dropLast,List.getLast,List.length]
     iterate 4
      apply walkM_eq
      case h =>
       intro yq zq wq hC hd
       obtain ⟨hcq,hfq⟩ := bcell hC
       simp at hd
       refine ⟨by go_simp; done, ?_⟩
       go_simp
       first | (go_ints; exact rfl) | (go_ints; rw [if_pos (by omega)]; try exact rfl) | exact rfl | (rw [if_pos (by omega)]; try exact rfl)
     refine walkM_call (MP.aggS dd) ?_ ?_
     ·intro yq zq wq hC hd
      obtain ⟨hcq,hfq⟩ := bcell hC
      simp at hd
      refine ⟨by go_simp; done, ?_⟩
      apply Exists.intro
      apply Exists.intro
      constructor
      ·go_simp
       exact ⟨rfl,rfl⟩
      ·have C := impl_diffusion _ p _ k t wq (HX.out.below (Below.next HBr.out hC)) HK.out HDL.out HRG.out
       rw [HDD.out] at C
       exact gives_aggS C
     iterate 4
      apply walkM_eq
      case h =>
       intro yq zq wq hC hd
       obtain ⟨hcq,hfq⟩ := bcell hC
       simp at hd
       refine ⟨by go_simp; done, ?_⟩
       go_simp
       first | (go_ints; exact rfl) | (go_ints; rw [if_pos (by omega)]; try exact rfl) | exact rfl | (rw [if_pos (by omega)]; try exact rfl)
     refine walkM_call (MP.agg (rmul dd x)) ?_ ?_
     ·intro yq zq wq hC hd
      obtain ⟨hcq,hfq⟩ := bcell hC
      simp at hd
      refine ⟨by go_simp; done, ?_⟩
      apply Exists.intro
      apply Exists.intro
      constructor
      ·go_simp
       exact ⟨rfl,rfl⟩
      ·obtain ⟨⟨_,s4,t1⟩, _⟩ := hd
       exact gives_agg (impl_RatMul _ _ dd x _ _ wq t1 (HAG.out.below hC))
     apply walkM_eq
     case h =>
      intro yq zq wq hC hd
      obtain ⟨hcq,hfq⟩ := bcell hC
      simp at hd
      refine ⟨by go_simp; done, ?_⟩
      go_simp
      first | (go_ints; exact rfl) | (go_ints; rw [if_pos (by omega)]; try exact rfl) | exact rfl | (rw [if_pos (by omega)]; try exact rfl)
     intro yq zq wa hC hd hdis0
     have hdis := hid hdis0
     clear hdis0
     simp at hd
     have q9 := hd.2.2.2.2.2.2.2.2.2.1
     have q10 := hd.2.2.2.2.2.2.2.2.2.2
     have e10 := q10.1.1
     obtain ⟨⟨ha9,hf9⟩,hr9⟩ := q9
     obtain ⟨V1,nV1,cV1,v1,V2,nV2,cV2,v2,e9,hz9, _, _⟩ := TRat.agg ha9
     rw [e9] at ha9
     have hwa := hC.size
     obtain ⟨c0',c1',c2',f0',f1',f2'⟩ : wa.cell? ⟨gr,j * 3,none⟩ = some (.bool x.num.neg) ∧ wa.cell? ⟨gr,j * 3 + 1,none⟩ = some (.slice G1 m1' d1') ∧ wa.cell? ⟨gr,j * 3 + 2,none⟩ = some (.slice G2 m2' d2') ∧ wa.frozen? ⟨gr,j * 3,none⟩ = false ∧ wa.frozen? ⟨gr,j * 3 + 1,none⟩ = false ∧ wa.frozen? ⟨gr,j * 3 + 2,none⟩ = false :=
      ⟨(hC.cell (p := ⟨gr, _,none⟩) hgl).trans e0,(hC.cell (p := ⟨gr, _,none⟩) hgl).trans e1,(hC.cell (p := ⟨gr, _,none⟩) hgl).trans e2,(hC.frozen (p := ⟨gr, _,none⟩) hgl).trans f0,(hC.frozen (p := ⟨gr, _,none⟩) hgl).trans f1,(hC.frozen (p := ⟨gr, _,none⟩) hgl).trans f2⟩
     have hgla : gr < wa.heap.size := by omega
     have Sn := hid (show MSt w1 (((wa.setCell ⟨gr,j * 3,none⟩ (.bool (rmul dd x).num.neg)).setCell ⟨gr,j * 3 + 1,none⟩ (.slice V1 nV1 cV1)).setCell ⟨gr,j * 3 + 2,none⟩ (.slice V2 nV2 cV2)) o 3 cap 3 gs ((matSc dd M i).set i (rowSc dd r0 (j + 1))) by
      have h := (HS4.out.below hC).set HGR.out HR'.out (j := j) (by omega) ha9 (fun b hb hm => by
       have h1 := (hr9 b hb).1
       have h2 := HS4.out.ltAll b hm
       omega) (fun b hb => by
       have h1 := (hr9 b hb).1
       have h2 := HS4.out.bl.size
       omega)
      rwa [List.set_set, ← NX.out] at h)
     generalize zq 9 = z9 at *
     clear hd hdis q10 ha9 hf9 hr9 hz9 hC HS4 e0 e1 e2 f0 f1 f2 hwa
     go_wp2_with fail
     go_roundg g2
     case measure => omega
     case rel => exact ⟨j + 1,hj'.out,by go_num,Sn⟩
    ·obtain rfl : j = 3 := by omega
     have S9 := hid (show MSt w1 wr o 3 cap 3 gs (matSc dd M (i + 1)) by rw [matSc,HR0.out]; exact HS4.out)
     clear hjk hjn HS4
     go_wp2_with fail
     go_roundg g
     case measure => omega
     case rel => exact ⟨i + 1,hi'.out,by go_num,S9⟩
  ·obtain rfl : i = 3 := by omega
   obtain ⟨bs,hs,hbn⟩ := HS.out.sl
   have HSS := hid hs
   have HNN := hid (show ∀ b ∈ bs,w.heap.size ≤ b from fun b hb => by have h1 := hbn b hb; have h2 := HB1.out.size; omega)
   have HBB := hid (Below.next HB1.out HS.out.bl)
   clear hik hin hs hbn
   go_wp2
   go_ret
   exact ⟨_, _, _,bs,rfl,HSS.out,HNN.out,HBB.out⟩
end Go.Proofs.YtpfipnankjeokaaGreat.X
