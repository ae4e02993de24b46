/- Part of a claim's proof: texts of this repository's wip,joined by prune.py,without the theorems that the claim does not reach. -/
import Derived.Test.YtpfipnankjeokaaGreatY19
import Derived.Test.YtpfipnankjeokaaGreatY18
import Derived.Test.YtpfipnankjeokaaGreatY13
/- ifVector,ConstantFlux of the program. -/
namespace Go.Proofs.YtpfipnankjeokaaGreat.X
open Go.RowKit Go.XB Go.XN
def cflux (m : TMesh) (d : TPoint) : List TRat := (edgesL m.triangles).map (fun e => cross d (psub (ptAt m.points e.b) (ptAt m.points e.a)))
attribute [local go_sem] fillBy opAt deps depOf Region.wanted yielded
attribute [local simp] deps depOf MP.eq MP.agg MP.sl MP.slbox Facts
set_option linter.constructorNameAsVariable false
theorem known_ifVector_1 : Known 87 := fun a w => by kernel_rfl
def denBad (x : TRat) : Bool := x.den.isEmpty
set_option maxHeartbeats 400000 in
theorem impl_ifVector_1 (v : Value) (x : TRat) (b : List Nat) (w : World) (hx : Agg w v x b) : Calls Tryz.prog 87 #[v] w (Gives w (.bool (denBad x))) := by
 have HX := hid hx
 obtain ⟨A1,n1,c1,s1,A2,n2,c2,s2,rfl,rfl,hs1,hs2⟩ := TRat.agg hx
 clear hs1 hs2 hx
 go_enter Tryz.func87,Tryz.ntmps87
 go_wp2_with fail
 refine (impl_isRat _ x _ _ (Agg.below HX.out (by (with_reducible repeat first | exact Below.refl _ _ | (refine Below.set ?_ ?_ _; rotate_left; (simp <;> omega)) | refine Below.box_ ?_ _ | refine Below.next ?_ (by assumption))))).mono ?_
 rintro _ w1 ⟨rfl,hb1⟩
 go_wp2
 go_ret
 exact ⟨by unfold denBad; simp,by (with_reducible repeat first | exact Below.refl _ _ | (refine Below.set ?_ ?_ _; rotate_left; (simp <;> omega)) | refine Below.box_ ?_ _ | refine Below.next ?_ (by assumption))⟩
set_option maxHeartbeats 400000 in
theorem impl_ifVector (A : Option Addr) (n c : Nat) (xs : List TRat) (bs : List Nat) (w : World) (hx : Sl w A n c xs bs) (hall : xs.any denBad = false) :
  Calls Tryz.prog 35 #[.slice A n c] w (Gives w (.slice A n c)) := by
 have HX := hid hx; have HA := hid hall
 clear hx hall
 go_enter Tryz.func35,Tryz.ntmps35
 go_wp2_with fail
 have C := contains_rats 87 known_ifVector_1 A n c xs bs w denBad HX.out (fun v x b w _ h => impl_ifVector_1 v x b w h)
 rw [HA.out] at C
 refine C.mono ?_
 clear C
 rintro _ w1 ⟨rfl,hb1⟩
 go_wp2
 go_ret
 exact ⟨rfl,hb1⟩

set_option maxHeartbeats 16000000 in
set_option maxRecDepth 10000 in
theorem impl_ConstantFlux (v : Value) (m : TMesh) (b : List Nat) (xs ys : List Int) (vp : Value) (d : TPoint) (bp : List Nat) (w : World) (hx : Agg w v m b) (hm : MeshI m xs ys) (hp : Agg w vp d bp) (hok : ptOkB d = true)
  (hes : ∀ e ∈ edgesL m.triangles,(0 ≤ e.a ∧ e.a < m.points.length) ∧ (0 ≤ e.b ∧ e.b < m.points.length)) (hall : (cflux m d).any denBad = false) :
  Calls Tryz.prog 7 #[v,vp] w (GivesSl w (cflux m d)) := by
 have HX := hid hx; have HM := hid hm; have HP := hid hp; have HOK := hid hok; have HALL := hid hall
 obtain ⟨A0,n0,c0,s0,A1,n1,c1,s1,rfl,rfl,hs0,hs1⟩ := TMesh.agg hx
 have HS0 := hid hs0
 have hn40 : n0 ≤ 40 := by rw [← hs0.1]; exact hm.n40
 have hn40i : (n0 : Int) ≤ 40 := by omega
 have HIN := hid (show ∀ e ∈ edgesL m.triangles,(0 ≤ e.a ∧ e.a < n0) ∧ (0 ≤ e.b ∧ e.b < n0) by rw [← hs0.1]; exact hes)
 obtain ⟨i0,hi,hz0,hz1,hz2⟩ := info_parts infoRt
 obtain ⟨Z1,nZ1,cZ1,z1,Z2,nZ2,cZ2,z2,Z4,nZ4,cZ4,z4,Z5,nZ5,cZ5,z5,rfl,rfl,hr1,hr2,hr4,hr5⟩ := TPoint.agg hp
 have hnfa : (edgesL m.triangles).length ≤ 144 := by unfold edgesL; have := edgesTo_len m.triangles m.triangles.length; have := hm.t48; omega
 clear hs0 hs1 hx hm hp hok hes hall hr1 hr2 hr4 hr5
 go_enter Tryz.func7,Tryz.ntmps7
 go_wp2_with fail
 refine (impl_IsMesh _ m _ xs ys _ (HX.out.below (by (with_reducible repeat first | exact Below.refl _ _ | (refine Below.set ?_ ?_ _; rotate_left; (simp <;> omega)) | refine Below.box_ ?_ _ | refine Below.next ?_ (by assumption)))) HM.out).mono ?_
 rintro _ w1 ⟨rfl,hb1⟩
 obtain ⟨hc_w1,hf_w1⟩ := bcell hb1
 have hz0_w1 : w.heap.size < w1.heap.size := by have := hb1.size; (try simp at this); omega
 have hz1_w1 : w.heap.size + 1 < w1.heap.size := by have := hb1.size; (try simp at this); omega
 have HB1 := hid (show Below w.heap.size w w1 by (with_reducible repeat first | exact Below.refl _ _ | (refine Below.set ?_ ?_ _; rotate_left; (simp <;> omega)) | refine Below.box_ ?_ _ | refine Below.next ?_ (by assumption)))
 go_wp2_with fail
 have C := impl_IsValidPoint _ d _ w1 (HP.out.below HB1.out)
 rw [HOK.out] at C
 refine C.mono ?_
 clear C
 rintro _ w2 ⟨rfl,hb2⟩
 obtain ⟨hc_w2,hf_w2⟩ := bcell hb2
 have hz0_w2 : w.heap.size < w2.heap.size := by have := hb2.size; (try simp at this); omega
 have hz1_w2 : w.heap.size + 1 < w2.heap.size := by have := hb2.size; (try simp at this); omega
 have HB2 := hid (Below.next HB1.out hb2)
 have k0 : w2.cell? ⟨w.heap.size,0,none⟩ = some (.slice A0 n0 c0) := by go_simp
 have k1 : w2.cell? ⟨w.heap.size,1,none⟩ = some (.slice A1 n1 c1) := by go_simp
 have j0 : w2.cell? ⟨w.heap.size + 1,0,none⟩ = some (.bool d.x.num.neg) := by go_simp
 have j1 : w2.cell? ⟨w.heap.size + 1,1,none⟩ = some (.slice Z1 nZ1 cZ1) := by go_simp
 have j2 : w2.cell? ⟨w.heap.size + 1,2,none⟩ = some (.slice Z2 nZ2 cZ2) := by go_simp
 have j3 : w2.cell? ⟨w.heap.size + 1,3,none⟩ = some (.bool d.y.num.neg) := by go_simp
 have j4 : w2.cell? ⟨w.heap.size + 1,4,none⟩ = some (.slice Z4 nZ4 cZ4) := by go_simp
 have j5 : w2.cell? ⟨w.heap.size + 1,5,none⟩ = some (.slice Z5 nZ5 cZ5) := by go_simp
 clear hc_w1 hf_w1 hc_w2 hf_w2 hb1 hb2
 go_wp2_with fail
 refine (impl_edges _ m _ (w2.alloc (.cells #[] 32)) ((HX.out.below HB2.out).below (Below.box _)) HM.out.t48).mono ?_
 rintro _ w3 ⟨E,nf,cE,eb,rfl,hse,hoe,hb3⟩
 have HB23 := hid (show Below w2.heap.size w2 w3 from Below.trans (Below.box _) (hb3.mono (by simp)))
 have R0 := hid (ownsRow_below (World.ownsRow_made (base := w2.heap.size) (e := 32) (size := 3) w2 #[] 0 (Nat.le_refl _) (Nat.zero_le _) rfl) hb3)
 have HSE := hid hse
 have HEB := hid (show w2.heap.size ∉ eb from fun h => by have := (hoe.2 _ h).1; simp at this; omega)
 have hnf : nf ≤ 144 := by rw [← hse.1]; exact hnfa
 have hnfi : (nf : Int) ≤ 144 := by omega
 have HNF := hid hse.1
 clear hse hoe hb3
 go_wp2_with fail
 go_loopg [5,20] nf (fun g s5 s wr => ∃ (i gB cap : Nat) (cells : List Value) (fss : List (List Nat)),i + g = nf ∧ s = .int .i64 i ∧ s5 = .slice (some ⟨gB,0,none⟩) i cap ∧ Hid (wr.ownsRow w2.heap.size 32 3 (.slice (some ⟨gB,0,none⟩) i cap) i cells) ∧ Hid (Filled wr cells ((cflux m d).take i) fss) ∧ Hid (((cflux m d).take i).length = i) ∧ Hid (Own w wr fss.flatten) ∧ Hid (gB ∉ fss.flatten) ∧ Hid (Sl wr E nf cE (edgesL m.triangles) eb) ∧ Hid (gB ∉ eb) ∧ Below w2.heap.size w2 wr)
 case atStart => exact ⟨0,w2.heap.size,0, [], [],by omega,rfl,rfl,R0.out,Filled.nil _ _,rfl,Own.nil _ _,(show w2.heap.size ∉ ([] : List (List Nat)).flatten by simp),HSE.out,HEB.out,HB23.out⟩
 case round =>
  clear HSE HEB R0
  obtain ⟨i,gB,cap,cells,fss,hi3,rfl,rfl,hown,hfil,hlen,how,hnot,HSE,HEB,hb⟩ := hrel
  have HB := hid hb
  have HBW := hid (Below.next HB2.out hb)
  obtain ⟨hc_wr,hf_wr⟩ := bcell hb
  have hsr := hb.size
  have hz0_wr : w.heap.size < wr.heap.size := by omega
  have hz1_wr : w.heap.size + 1 < wr.heap.size := by omega
  rcases Nat.lt_or_ge i nf with hin | hin
  ·have hii : (i : Int) < nf := by omega
   obtain ⟨g,rfl⟩ : ∃ g,gk = g + 1 := ⟨gk - 1,by omega⟩
   have hi' := hid (show i + 1 + g = nf by omega)
   have hi1 : i + 1 ≤ nf := hin
   obtain ⟨bE,oE,x,hA1,hblE,hx1,x0,x1,x2,x3,hagx⟩ := TEdge.elemA HSE.out hin
   subst hA1
   obtain ⟨⟨ha0,ha1⟩,⟨hb0,hb1⟩⟩ := HIN.out x (List.mem_of_getElem? hx1)
   obtain ⟨ba,oa,pa,D1,nD1,cD1,d1,D2,nD2,cD2,d2,D4,nD4,cD4,d4,D5,nD5,cD5,d5,hAa,hbla,hxa,a0,a1,a2,a3,a4,a5,haga⟩ := TPoint.elemA (HS0.out.below HBW.out) (show x.a.toNat < n0 by omega)
   obtain ⟨bb,ob,pb,F1,nF1,cF1,f1,F2,nF2,cF2,f2,F4,nF4,cF4,f4,F5,nF5,cF5,f5,hAb,hblb,hxb,b0,b1,b2,b3,b4,b5,hagb⟩ := TPoint.elemA (HS0.out.below HBW.out) (show x.b.toNat < n0 by omega)
   subst hAa
   injection hAb with hAb; injection hAb with h1 h2 _; subst h1; subst h2
   have HGA := hid haga; have HGB := hid hagb
   have NX := hid (show (cflux m d).take (i + 1) = (cflux m d).take i ++ [cross d (psub pb pa)] from take_step (by
    unfold cflux; rw [List.getElem?_map,hx1]; simp only [Option.map_some]; rw [ptAt_get hxa rfl,ptAt_get hxb rfl]))
   have C3 := hid (show i + 1 ≤ maxLen by unfold maxLen; omega)
   have C4 := hid (show (i + 1) * 56 ≤ 140737488355328 by omega)
   have hrow := World.ownsRow.lt hown.out _ rfl
   have hgB2 := hid (show w2.heap.size ≤ gB from hrow.1)
   have hgB3 : gB < wr.heap.size := hrow.2
   clear hi3 hin hx1 hagx hxa hxb haga hagb hb hrow
   go_wp2_with fail
   refine wp_region_line 17 (by kernel_rfl) (by kernel_rfl) (by kernel_rfl) (by kernel_rfl) (by kernel_rfl) ?_
   simp only [List.take_succ_cons,List.take_zero,List.drop_succ_cons,List.drop_zero]
   iterate 14
    apply walkM_eq
    case h =>
     intro yq zq wq hC hd
     obtain ⟨hcq,hfq⟩ := bcell hC
     simp at hd
     refine ⟨by go_simp; done, ?_⟩
     go_simp
     first | (go_ints; exact rfl) | (go_ints; rw [if_pos (by omega)]; try exact rfl) | exact rfl | (rw [if_pos (by omega)]; try exact rfl)
   refine walkM_call (MP.agg (psub pb pa)) ?_ ?_
   ·intro yq zq wq hC hd
    obtain ⟨hcq,hfq⟩ := bcell hC
    simp at hd
    refine ⟨by go_simp; done, ?_⟩
    apply Exists.intro
    apply Exists.intro
    constructor
    ·go_simp
     exact ⟨rfl,rfl⟩
    ·exact gives_agg (impl_SubtractPoints _ _ pb pa _ _ wq (HGB.out.below (by (with_reducible repeat first | exact Below.refl _ _ | (refine Below.set ?_ ?_ _; rotate_left; (simp <;> omega)) | refine Below.box_ ?_ _ | refine Below.next ?_ (by assumption)))) (HGA.out.below (by (with_reducible repeat first | exact Below.refl _ _ | (refine Below.set ?_ ?_ _; rotate_left; (simp <;> omega)) | refine Below.box_ ?_ _ | refine Below.next ?_ (by assumption)))))
   refine walkM_call (MP.agg (cross d (psub pb pa))) ?_ ?_
   ·intro yq zq wq hC hd
    obtain ⟨hcq,hfq⟩ := bcell hC
    simp at hd
    refine ⟨by go_simp; done, ?_⟩
    apply Exists.intro
    apply Exists.intro
    constructor
    ·go_simp
     exact ⟨rfl,rfl⟩
    ·obtain ⟨_,t, _⟩ := hd
     exact gives_agg (impl_Cross _ _ d (psub pb pa) _ _ wq ((HP.out.below HBW.out).below (by (with_reducible repeat first | exact Below.refl _ _ | (refine Below.set ?_ ?_ _; rotate_left; (simp <;> omega)) | refine Below.box_ ?_ _ | refine Below.next ?_ (by assumption)))) t)
   refine walkM_runD (fun y' => MP.slbox (y' 15).cells 32) (by intro y y' h; simp [deps,depOf] at h; simp [h]) ?_ ?_
   ·intro yq zq wq hC hd
    simp at hd
    obtain ⟨D1,nD1,cD1,d1,D2,nD2,cD2,d2,e13, _, _, _⟩ := TRat.agg hd.1
    refine ⟨by go_simp; done, .slice (some ⟨wq.heap.size,0,none⟩) 1 1,wq.alloc (.cells (yq 15).cells 32), ?_,Below.box _, [wq.heap.size],⟨wq.heap.size,rfl,rfl,heap_alloc_new wq _⟩,by simp⟩
    rw [e13]
    go_simp
   intro yq zq wa hC hd hdis0
   have hdis := hid hdis0
   clear hdis0
   simp at hd
   have q0 := hd.1
   have q15 := hd.2.2.2.2.2.2.2.2.2.2.2.2.2.2.2.1
   have q16 := hd.2.2.2.2.2.2.2.2.2.2.2.2.2.2.2.2
   obtain ⟨⟨ha,hf⟩,hr⟩ := q15
   obtain ⟨G1,nG1,cG1,g1,G2,nG2,cG2,g2,e15,z15,m1,m2⟩ := TRat.agg ha
   obtain ⟨⟨gn,e16,z16,hgn⟩,hr16⟩ := q16
   rw [e15] at hgn ha
   have AT := hid (rat_dat ha)
   have HF := hid hf
   have HBa := hid (show Below wr.heap.size wr wa by (with_reducible repeat first | exact Below.refl _ _ | (refine Below.set ?_ ?_ _; rotate_left; (simp <;> omega)) | refine Below.box_ ?_ _ | refine Below.next ?_ (by assumption)))
   have HR := hid (show ∀ b ∈ zq 15,wr.heap.size ≤ b from fun b hb => by have := (hr b hb).1; (try simp at this); omega)
   have HGN := hid hgn
   have e0 : yq 0 = .slice (some ⟨gB,0,none⟩) i cap := q0.1.1
   have hownA := ownsRow_below hown.out HBa.out
   have WL := hid (show w2.heap.size ≤ wa.heap.size by have := HBa.out.size; omega)
   generalize zq 15 = r15 at *
   clear hd hdis ha hf hr z15 m1 m2 hgn hr16 z16 q0 hC
   go_wp2_with (at_builtin; refine wpList_push rfl _ _ 36 rfl w2.heap.size 32 i0 (.agg #[.bool false, .slice none 0 0, .slice none 0 0]) 3 56 Tryz.underlying36 hi hz0 hz1 hz2 rfl (by decide) gB i cap cells (by go_simp; done) hownA ⟨gn,0,none⟩ 1 1 [.bool (cross d (psub pb pa)).num.neg, .slice G1 nG1 cG1, .slice G2 nG2 cG2] (by go_simp; done) rfl (block_cells HGN.out) (Dat.one AT.out) C3.out C4.out WL.out ?_; intro g' cap' w8 hown' hgrow' hor')
   have P := hid (push_ownG (w := w) (wr := wr) (g' := g') hfil.out hlen.out hown.out.1 how.out hnot.out HBW.out hgB3 (by have := hgB2.out; have := HB2.out.size; omega) HBa.out AT.out HF.out HR.out hgrow' hor')
   have OW := hid hown'
   have SE8 := hid ((HSE.out.below HBa.out).keep (fun b hb => hgrow'.block b (by have := HSE.out.lt b hb; have := HBa.out.size; omega) (by intro e; injection e with e; exact HEB.out (e ▸ hb))))
   have EB8 := hid (show g' ∉ eb from fun h => hor'.elim (fun e => HEB.out (e ▸ h)) (fun e => by have := HSE.out.lt _ h; have := HBa.out.size; omega))
   have HB8 := hid (((HB.out.trans (HBa.out.mono hsr)).grown hgrow' WL.out (fun k2 hk2 => by injection hk2 with h; subst h; exact hgB2.out)))
   clear hown' hgrow' hor' hownA
   generalize (cells ++ [.bool (cross d (psub pb pa)).num.neg, .slice G1 nG1 cG1, .slice G2 nG2 cG2] : List Value) = cells2 at OW P
   go_wp2_with fail
   go_roundg g
   case measure => omega
   case rel => exact ⟨i + 1,g',cap',cells2,(fss ++ [r15] : List (List Nat)),hi'.out,by go_num,rfl,OW.out,(show Filled w8 _ ((cflux m d).take (i + 1)) _ by rw [NX.out]; exact P.out.1),(show ((cflux m d).take (i + 1)).length = i + 1 by rw [NX.out]; exact P.out.2.2.2.2),P.out.2.1,P.out.2.2.1,SE8.out,EB8.out,HB8.out⟩
  ·obtain rfl : i = nf := by omega
   have hii : ¬ ((i : Int) < i) := by omega
   have TK := hid (show (cflux m d).take i = cflux m d from List.take_of_length_le (by unfold cflux; rw [List.length_map,HNF.out]; exact Nat.le_refl _))
   have HFI := hid (show Filled wr cells (cflux m d) fss by have := hfil.out; rwa [TK.out] at this)
   have HLI := hid (show (cflux m d).length = i by have := hlen.out; rwa [TK.out] at this)
   obtain ⟨A9,n9,c9,bs9,he9,hs9,ho9,hb9⟩ := push_doneG hown.out HB2.out.size HFI.out HLI.out how.out hnot.out HBW.out
   cases he9
   have HS9 := hid hs9; have HO9 := hid ho9
   clear hi3 hin hb hs9 ho9 hb9
   go_wp2_with fail
   refine (impl_ifVector _ i _ (cflux m d) bs9 wr HS9.out HALL.out).mono ?_
   rintro _ w9 ⟨rfl,hb9⟩
   go_wp2
   go_ret
   exact ⟨_,i, _,bs9,rfl,HS9.out.below hb9,HO9.out.below hb9,Below.next HBW.out hb9⟩
end Go.Proofs.YtpfipnankjeokaaGreat.X

/- outflow of the program: the flow out of a triangle. -/
namespace Go.Proofs.YtpfipnankjeokaaGreat.X
open Go.RowKit Go.XB Go.XN
def leftTo (es : List TEdge) (fs : List TRat) (t : Int) : Nat → TRat
 | 0 => rint 0
 | k + 1 => if (es.getD k edge0).left = t then radd (leftTo es fs t k) (fs.getD k zeroR) else leftTo es fs t k
def rightTo (es : List TEdge) (fs : List TRat) (t : Int) : Nat → TRat
 | 0 => rint 0
 | k + 1 => if (es.getD k edge0).right = t then radd (rightTo es fs t k) (fs.getD k zeroR) else rightTo es fs t k
def outP (es : List TEdge) (fs : List TRat) (t : Int) : TRat := rsub (leftTo es fs t es.length) (rightTo es fs t es.length)
theorem heap_set3 {w : World} {g : Nat} {v0 v1 v2 : Value} (b : Nat) (h : b ≠ g) : (((w.setCell ⟨g,0,none⟩ v0).setCell ⟨g,1,none⟩ v1).setCell ⟨g,2,none⟩ v2).heap[b]? = w.heap[b]? := heap_setCells g [v0,v1,v2] w 0 b h
def RBox (w : World) (g : Nat) (x : TRat) (P1 : Option Addr) (n1 m1 : Nat) (P2 : Option Addr) (n2 m2 : Nat) : Prop := g < w.heap.size ∧ (w.cell? ⟨g,0,none⟩ = some (.bool x.num.neg) ∧ w.cell? ⟨g,1,none⟩ = some (.slice P1 n1 m1) ∧ w.cell? ⟨g,2,none⟩ = some (.slice P2 n2 m2)) ∧ (w.frozen? ⟨g,0,none⟩ = false ∧ w.frozen? ⟨g,1,none⟩ = false ∧ w.frozen? ⟨g,2,none⟩ = false)
theorem RBox.keep {w w' : World} {g : Nat} {x : TRat} {P1 : Option Addr} {n1 m1 : Nat} {P2 : Option Addr} {n2 m2 : Nat} (h : RBox w g x P1 n1 m1 P2 n2 m2) (hk : w'.heap[g]? = w.heap[g]?) (hs : w.heap.size ≤ w'.heap.size) : RBox w' g x P1 n1 m1 P2 n2 m2 := by
 obtain ⟨h0,⟨h1,h2,h3⟩,⟨h4,h5,h6⟩⟩ := h
 exact ⟨by omega,⟨(World.cell?_of_block hk).trans h1,(World.cell?_of_block hk).trans h2,(World.cell?_of_block hk).trans h3⟩,⟨(World.frozen?_of_block hk).trans h4,(World.frozen?_of_block hk).trans h5,(World.frozen?_of_block hk).trans h6⟩⟩
theorem RBox.below {w w' : World} {g : Nat} {x : TRat} {P1 : Option Addr} {n1 m1 : Nat} {P2 : Option Addr} {n2 m2 : Nat} (h : RBox w g x P1 n1 m1 P2 n2 m2) (hb : Below w.heap.size w w') : RBox w' g x P1 n1 m1 P2 n2 m2 := h.keep (hb.block g h.1) hb.size
attribute [local go_sem] fillBy opAt deps depOf Region.wanted yielded
attribute [local simp] deps depOf MP.eq MP.agg MP.sl Facts
set_option linter.constructorNameAsVariable false
theorem RBox.set {w : World} {g : Nat} {x y : TRat} {P1 : Option Addr} {n1 m1 : Nat} {P2 : Option Addr} {n2 m2 : Nat} {Q1 : Option Addr} {k1 l1 : Nat} {Q2 : Option Addr} {k2 l2 : Nat} (h : RBox w g x P1 n1 m1 P2 n2 m2) :
  RBox (((w.setCell ⟨g,0,none⟩ (.bool y.num.neg)).setCell ⟨g,1,none⟩ (.slice Q1 k1 l1)).setCell ⟨g,2,none⟩ (.slice Q2 k2 l2)) g y Q1 k1 l1 Q2 k2 l2 := by
 obtain ⟨h0,⟨h1,h2,h3⟩,⟨h4,h5,h6⟩⟩ := h
 exact ⟨by simpa using h0,⟨by go_simp,by go_simp,by go_simp⟩,⟨by go_simp,by go_simp,by go_simp⟩⟩

theorem rat_elemB {w w' : World} {A : Option Addr} {n c : Nat} {xs : List TRat} {bs : List Nat} (h : Sl w A n c xs bs) (hb : Below w.heap.size w w') {k : Nat} (hk : k < n) :
  ∃ (b off : Nat) (x : TRat) (A1 : Option Addr) (n1 c1 : Nat) (A2 : Option Addr) (n2 c2 : Nat) (fs : List Nat),A = some ⟨b,off,none⟩ ∧ b < w.heap.size ∧ xs[k]? = some x ∧ w'.cell? ⟨b,off + k * 3,none⟩ = some (.bool x.num.neg) ∧ w'.cell? ⟨b,off + k * 3 + 1,none⟩ = some (.slice A1 n1 c1) ∧ w'.cell? ⟨b,off + k * 3 + 2,none⟩ = some (.slice A2 n2 c2) ∧ Agg w' (.agg #[.bool x.num.neg, .slice A1 n1 c1, .slice A2 n2 c2]) x fs ∧ ∀ g ∈ fs,g < w.heap.size := by
 obtain ⟨b,off,x,A1,n1,c1,s1,A2,n2,c2,s2,rfl,hl,hx,h0,h1,h2,ha⟩ := TRat.elemA h hk
 exact ⟨b,off,x,A1,n1,c1,A2,n2,c2,s1 ++ s2,rfl,hl,hx,(hb.cell (p := ⟨b, _,none⟩) hl).trans h0,(hb.cell (p := ⟨b, _,none⟩) hl).trans h1,(hb.cell (p := ⟨b, _,none⟩) hl).trans h2,ha.below hb,ha.lt⟩
structure OutSt (w U : World) (ga gb : Nat) (E : Option Addr) (nf cE : Nat) (es : List TEdge) (eb : List Nat) (lx : TRat) (P1 : Option Addr) (p1 q1 : Nat) (P2 : Option Addr) (p2 q2 : Nat) (rl : List Nat) (rx : TRat) (Q1 : Option Addr) (k1 l1 : Nat) (Q2 : Option Addr) (k2 l2 : Nat) (rr : List Nat) : Prop where
 bl : Below w.heap.size w U
 ra : RBox U ga lx P1 p1 q1 P2 p2 q2
 rb : RBox U gb rx Q1 k1 l1 Q2 k2 l2
 al : Agg U (.agg #[.bool lx.num.neg, .slice P1 p1 q1, .slice P2 p2 q2]) lx rl
 ar : Agg U (.agg #[.bool rx.num.neg, .slice Q1 k1 l1, .slice Q2 k2 l2]) rx rr
 dl : ∀ b ∈ rl,b ≠ ga ∧ b ≠ gb
 dr : ∀ b ∈ rr,b ≠ ga ∧ b ≠ gb
 se : Sl U E nf cE es eb
 de : ∀ b ∈ eb,b ≠ ga ∧ b ≠ gb
 res : U.heap[w.heap.size + 1]? = some (.cells #[.bool false, .slice none 0 0, .slice none 0 0] 32)
 na : w.heap.size + 2 ≤ ga
 nb : w.heap.size + 2 ≤ gb
 ne : ga ≠ gb
theorem OutSt.below {w U U' : World} {ga gb : Nat} {E : Option Addr} {nf cE : Nat} {es : List TEdge} {eb : List Nat} {lx : TRat} {P1 : Option Addr} {p1 q1 : Nat} {P2 : Option Addr} {p2 q2 : Nat} {rl : List Nat} {rx : TRat} {Q1 : Option Addr} {k1 l1 : Nat} {Q2 : Option Addr} {k2 l2 : Nat} {rr : List Nat}
  (h : OutSt w U ga gb E nf cE es eb lx P1 p1 q1 P2 p2 q2 rl rx Q1 k1 l1 Q2 k2 l2 rr) (hb : Below U.heap.size U U') : OutSt w U' ga gb E nf cE es eb lx P1 p1 q1 P2 p2 q2 rl rx Q1 k1 l1 Q2 k2 l2 rr :=
 ⟨Below.next h.bl hb,h.ra.below hb,h.rb.below hb,h.al.below hb,h.ar.below hb,h.dl,h.dr,h.se.below hb,h.de,heap_keep' h.res hb,h.na,h.nb,h.ne⟩
theorem OutSt.setL {w U : World} {ga gb : Nat} {E : Option Addr} {nf cE : Nat} {es : List TEdge} {eb : List Nat} {lx : TRat} {P1 : Option Addr} {p1 q1 : Nat} {P2 : Option Addr} {p2 q2 : Nat} {rl : List Nat} {rx : TRat} {Q1 : Option Addr} {k1 l1 : Nat} {Q2 : Option Addr} {k2 l2 : Nat} {rr : List Nat}
  (h : OutSt w U ga gb E nf cE es eb lx P1 p1 q1 P2 p2 q2 rl rx Q1 k1 l1 Q2 k2 l2 rr) {y : TRat} {O1 : Option Addr} {o1 u1 : Nat} {O2 : Option Addr} {o2 u2 : Nat} {ry : List Nat}
  (ha : Agg U (.agg #[.bool y.num.neg, .slice O1 o1 u1, .slice O2 o2 u2]) y ry) (hd : ∀ b ∈ ry,b ≠ ga ∧ b ≠ gb) :
  OutSt w (((U.setCell ⟨ga,0,none⟩ (.bool y.num.neg)).setCell ⟨ga,1,none⟩ (.slice O1 o1 u1)).setCell ⟨ga,2,none⟩ (.slice O2 o2 u2)) ga gb E nf cE es eb y O1 o1 u1 O2 o2 u2 ry rx Q1 k1 l1 Q2 k2 l2 rr := by
 have hw : w.heap.size ≤ ga := by have := h.na; omega
 exact ⟨((h.bl.setCell (p := ⟨ga,0,none⟩) hw _).setCell (p := ⟨ga,1,none⟩) hw _).setCell (p := ⟨ga,2,none⟩) hw _,h.ra.set,h.rb.keep (heap_set3 gb h.ne.symm) (by simp),ha.keep (fun b hb => heap_set3 b (hd b hb).1),h.ar.keep (fun b hb => heap_set3 b (h.dr b hb).1),hd,h.dr,h.se.keep (fun b hb => heap_set3 b (h.de b hb).1),h.de,(heap_set3 _ (by have := h.na; omega)).trans h.res,h.na,h.nb,h.ne⟩
theorem OutSt.setR {w U : World} {ga gb : Nat} {E : Option Addr} {nf cE : Nat} {es : List TEdge} {eb : List Nat} {lx : TRat} {P1 : Option Addr} {p1 q1 : Nat} {P2 : Option Addr} {p2 q2 : Nat} {rl : List Nat} {rx : TRat} {Q1 : Option Addr} {k1 l1 : Nat} {Q2 : Option Addr} {k2 l2 : Nat} {rr : List Nat}
  (h : OutSt w U ga gb E nf cE es eb lx P1 p1 q1 P2 p2 q2 rl rx Q1 k1 l1 Q2 k2 l2 rr) {y : TRat} {O1 : Option Addr} {o1 u1 : Nat} {O2 : Option Addr} {o2 u2 : Nat} {ry : List Nat}
  (ha : Agg U (.agg #[.bool y.num.neg, .slice O1 o1 u1, .slice O2 o2 u2]) y ry) (hd : ∀ b ∈ ry,b ≠ ga ∧ b ≠ gb) :
  OutSt w (((U.setCell ⟨gb,0,none⟩ (.bool y.num.neg)).setCell ⟨gb,1,none⟩ (.slice O1 o1 u1)).setCell ⟨gb,2,none⟩ (.slice O2 o2 u2)) ga gb E nf cE es eb lx P1 p1 q1 P2 p2 q2 rl y O1 o1 u1 O2 o2 u2 ry := by
 have hw : w.heap.size ≤ gb := by have := h.nb; omega
 exact ⟨((h.bl.setCell (p := ⟨gb,0,none⟩) hw _).setCell (p := ⟨gb,1,none⟩) hw _).setCell (p := ⟨gb,2,none⟩) hw _,h.ra.keep (heap_set3 ga h.ne) (by simp),h.rb.set,h.al.keep (fun b hb => heap_set3 b (h.dl b hb).2),ha.keep (fun b hb => heap_set3 b (hd b hb).2),h.dl,hd,h.se.keep (fun b hb => heap_set3 b (h.de b hb).2),h.de,(heap_set3 _ (by have := h.nb; omega)).trans h.res,h.na,h.nb,h.ne⟩

set_option maxHeartbeats 16000000 in
set_option maxRecDepth 10000 in
theorem impl_outflow (v : Value) (m : TMesh) (b : List Nat) (B : Option Addr) (nf d : Nat) (fs : List TRat) (ds : List Nat) (t : Nat) (w : World) (hx : Agg w v m b) (hm : m.triangles.length ≤ 48) (hf : Sl w B nf d fs ds) (hl : fs.length = (edgesL m.triangles).length) :
  Calls Tryz.prog 48 #[v, .slice B nf d, .int .i64 t] w (GivesAgg w (outP (edgesL m.triangles) fs t)) := by
 have HX := hid hx; have HF := hid hf; have HM := hid hm
 obtain ⟨A0,n0,c0,s0,A1,n1,c1,s1,rfl,rfl,hs0,hs1⟩ := TMesh.agg hx
 have HNF := hid (show (edgesL m.triangles).length = nf by rw [← hl,hf.1])
 obtain ⟨es,hes⟩ : ∃ es,edgesL m.triangles = es := ⟨_,rfl⟩
 rw [hes] at HNF ⊢
 have HES := hid hes
 have HFL := hid hf.1
 have hnf : nf ≤ 144 := by rw [← HNF.out, ← hes]; unfold edgesL; have := edgesTo_len m.triangles m.triangles.length; omega
 have hnfi : (nf : Int) ≤ 144 := by omega
 clear hs0 hs1 hx hm hf hl hes
 go_enter Tryz.func48,Tryz.ntmps48
 go_wp2_with fail
 refine (impl_RatFromInt 0 _ (by constructor <;> decide)).mono ?_
 rintro _ wa ⟨va,sa,rfl,haa,hoa,hba⟩
 obtain ⟨P1,p1,q1,e1,P2,p2,q2,e2,rfl,hz0', _, _⟩ := TRat.agg haa
 have HAA := hid haa; have HOA := hid hoa
 clear haa hoa hz0'
 obtain ⟨hc_wa,hf_wa⟩ := bcell hba
 have hz0_wa : w.heap.size < wa.heap.size := by have := hba.size; (try simp at this); omega
 have hz1_wa : w.heap.size + 1 < wa.heap.size := by have := hba.size; (try simp at this); omega
 have HBa := hid (show Below w.heap.size w wa by (with_reducible repeat first | exact Below.refl _ _ | (refine Below.set ?_ ?_ _; rotate_left; (simp <;> omega)) | refine Below.box_ ?_ _ | refine Below.next ?_ (by assumption)))
 have HRa := hid (show wa.heap[w.heap.size + 1]? = some (.cells #[.bool false, .slice none 0 0, .slice none 0 0] 32) from by
  refine (hba.block _ (by simp)).trans ?_
  have := heap_alloc_new (w.alloc (.cells #[.slice A0 n0 c0, .slice A1 n1 c1] 26)) (.cells #[.bool false, .slice none 0 0, .slice none 0 0] 32)
  rw [World.size_alloc] at this
  exact this)
 have m0 : wa.cell? ⟨w.heap.size,0,none⟩ = some (.slice A0 n0 c0) := by go_simp
 have m1 : wa.cell? ⟨w.heap.size,1,none⟩ = some (.slice A1 n1 c1) := by go_simp
 clear hc_wa hf_wa
 go_wp2_with fail
 refine (impl_RatFromInt 0 wa (by constructor <;> decide)).mono ?_
 rintro _ wb ⟨vb,sb,rfl,hab,hob,hbb⟩
 obtain ⟨Q1,k1,l1,e3,Q2,k2,l2,e4,rfl,hz1', _, _⟩ := TRat.agg hab
 have HAB := hid hab; have HOB := hid hob
 have HBb := hid (Below.next HBa.out hbb)
 have HRb := hid (heap_keep' HRa.out hbb)
 obtain ⟨hc_wb,hf_wb⟩ := bcell hbb
 have HAA2 := hid (HAA.out.below hbb)
 have hszb := hbb.size
 have hz0_wb : w.heap.size < wb.heap.size := by omega
 have hz1_wb : w.heap.size + 2 ≤ wb.heap.size := by have := hba.size; simp at this; omega
 have HSA := hid (show ∀ b ∈ sa,b < wb.heap.size from fun b hb => by have := HAA.out.lt b hb; omega)
 have HSB := hid (show ∀ b ∈ sb,b < wb.heap.size from fun b hb => HAB.out.lt b hb)
 clear hab hob hz1' hbb hba
 have RA0 := hid (show RBox ((wb.alloc (.cells #[.bool (rint 0).num.neg, .slice P1 p1 q1, .slice P2 p2 q2] 32)).alloc (.cells #[.bool (rint 0).num.neg, .slice Q1 k1 l1, .slice Q2 k2 l2] 32)) wb.heap.size (rint 0) P1 p1 q1 P2 p2 q2 from ⟨by simp; omega,⟨by go_simp,by go_simp,by go_simp⟩,⟨by go_simp,by go_simp,by go_simp⟩⟩)
 have RB0 := hid (show RBox ((wb.alloc (.cells #[.bool (rint 0).num.neg, .slice P1 p1 q1, .slice P2 p2 q2] 32)).alloc (.cells #[.bool (rint 0).num.neg, .slice Q1 k1 l1, .slice Q2 k2 l2] 32)) (wb.heap.size + 1) (rint 0) Q1 k1 l1 Q2 k2 l2 from ⟨by simp,⟨by go_simp,by go_simp,by go_simp⟩,⟨by go_simp,by go_simp,by go_simp⟩⟩)
 obtain ⟨wz,hwz⟩ : ∃ W,(wb.alloc (.cells #[.bool (rint 0).num.neg, .slice P1 p1 q1, .slice P2 p2 q2] 32)).alloc (.cells #[.bool (rint 0).num.neg, .slice Q1 k1 l1, .slice Q2 k2 l2] 32) = W := ⟨_,rfl⟩
 have HZ2 := hid (show Below wb.heap.size wb wz by rw [← hwz]; exact (Below.box _).alloc (by simp) _)
 have HBz := hid (Below.next HBb.out HZ2.out)
 have RAz := hid (show RBox wz wb.heap.size (rint 0) P1 p1 q1 P2 p2 q2 by rw [← hwz]; exact RA0.out)
 have RBz := hid (show RBox wz (wb.heap.size + 1) (rint 0) Q1 k1 l1 Q2 k2 l2 by rw [← hwz]; exact RB0.out)
 have HSZ := hid (show wz.heap.size = wb.heap.size + 1 + 1 by rw [← hwz]; simp)
 have HWZ := hid hwz
 clear hwz
 go_wp2_with fail
 rw [HWZ.out]
 refine (impl_edges _ m _ wz (HX.out.below HBz.out) HM.out).mono ?_
 rintro _ w2 ⟨E,nE,cE,eb,rfl,hse,hoe,hb2⟩
 rw [HES.out] at hse
 obtain rfl : nf = nE := by rw [← HNF.out]; exact hse.1
 have OST := hid (show OutSt w w2 wb.heap.size (wb.heap.size + 1) E nf cE es eb (leftTo es fs t 0) P1 p1 q1 P2 p2 q2 sa (rightTo es fs t 0) Q1 k1 l1 Q2 k2 l2 sb from
  ⟨Below.next HBz.out hb2,RAz.out.below hb2,RBz.out.below hb2,(HAA2.out.below HZ2.out).below hb2,(HAB.out.below HZ2.out).below hb2,fun b hb => by have := HSA.out b hb; omega,fun b hb => by have := HSB.out b hb; omega,hse,fun b hb => by have := (hoe.2 b hb).1; have := HSZ.out; omega,heap_keep' (heap_keep' HRb.out HZ2.out) hb2,by omega,by omega,by omega⟩)
 clear hse hoe hb2 m0 m1 hc_wb hf_wb
 generalize hga : wb.heap.size = ga at *
 generalize hgb : ga + 1 = gb at *
 clear hga hgb
 go_wp2_with fail
 go_loopg [16] nf (fun g s wr => ∃ (k : Nat) (P1 : Option Addr) (p1 q1 : Nat) (P2 : Option Addr) (p2 q2 : Nat) (rl : List Nat) (Q1 : Option Addr) (k1 l1 : Nat) (Q2 : Option Addr) (k2 l2 : Nat) (rr : List Nat),k + g = nf ∧ s = .int .i64 k ∧ Hid (OutSt w wr ga gb E nf cE es eb (leftTo es fs t k) P1 p1 q1 P2 p2 q2 rl (rightTo es fs t k) Q1 k1 l1 Q2 k2 l2 rr))
 case atStart => exact ⟨0,P1,p1,q1,P2,p2,q2,sa,Q1,k1,l1,Q2,k2,l2,sb,by omega,rfl,OST.out⟩
 case round =>
  clear OST
  obtain ⟨k,P1,p1,q1,P2,p2,q2,rl,Q1,k1,l1,Q2,k2,l2,rr,hk,rfl,hst⟩ := hrel
  have hgas := hst.out.ra.1
  have hgbs := hst.out.rb.1
  rcases Nat.lt_or_ge k nf with hkn | hkn
  ·have hki : (k : Int) < nf := by omega
   have hki0 : (0 : Int) ≤ k := by omega
   have hk1 : k + 1 ≤ nf := hkn
   obtain ⟨g,rfl⟩ : ∃ g,gk = g + 1 := ⟨gk - 1,by omega⟩
   have hk' := hid (show k + 1 + g = nf by omega)
   obtain ⟨be,of,x,hA1,hbl,hx1,e0,e1,e2,e3,hagx⟩ := TEdge.elemA hst.out.se hkn
   obtain ⟨bf,off,r,F1,nF1,cF1,F2,nF2,cF2,fy,hA2,hblf,hr1,g0,g1,g2,hagr,hfy⟩ := rat_elemB HF.out hst.out.bl hkn
   subst hA1; subst hA2
   have HFY := hid hfy
   have HGR := hid hagr
   have EX := hid (show es.getD k edge0 = x by rw [List.getD_eq_getElem?_getD,hx1]; rfl)
   have RX := hid (show fs.getD k zeroR = r by rw [List.getD_eq_getElem?_getD,hr1]; rfl)
   have S1 := hid (hst.out.below (Below.box (.cells #[.int .i64 x.a, .int .i64 x.b, .int .i64 x.left, .int .i64 x.right] 71)))
   have T2 : (wr.alloc (.cells #[.int .i64 x.a, .int .i64 x.b, .int .i64 x.left, .int .i64 x.right] 71)).cell? ⟨wr.heap.size,2,none⟩ = some (.int .i64 x.left) := by go_simp
   have T3 : (wr.alloc (.cells #[.int .i64 x.a, .int .i64 x.b, .int .i64 x.left, .int .i64 x.right] 71)).cell? ⟨wr.heap.size,3,none⟩ = some (.int .i64 x.right) := by go_simp
   have hT : wr.heap.size < (wr.alloc (.cells #[.int .i64 x.a, .int .i64 x.b, .int .i64 x.left, .int .i64 x.right] 71)).heap.size := by simp
   have hTa : wr.heap.size ≠ ga := by omega
   have hbfw : bf < wr.heap.size := by have := hst.out.bl.size; omega
   have NA := hid hst.out.na; have NB := hid hst.out.nb
   have hba : bf ≠ ga := by have := NA.out; omega
   have hbb : bf ≠ gb := by have := NB.out; omega
   have FYD := hid (show ∀ b ∈ fy,b ≠ ga ∧ b ≠ gb from fun b hb => by have := HFY.out b hb; have := NA.out; have := NB.out; omega)
   have hTb : wr.heap.size ≠ gb := by omega
   obtain ⟨j0,j1,j2⟩ : (wr.alloc (.cells #[.int .i64 x.a, .int .i64 x.b, .int .i64 x.left, .int .i64 x.right] 71)).cell? ⟨bf,off + k * 3,none⟩ = some (.bool r.num.neg) ∧ (wr.alloc (.cells #[.int .i64 x.a, .int .i64 x.b, .int .i64 x.left, .int .i64 x.right] 71)).cell? ⟨bf,off + k * 3 + 1,none⟩ = some (.slice F1 nF1 cF1) ∧ (wr.alloc (.cells #[.int .i64 x.a, .int .i64 x.b, .int .i64 x.left, .int .i64 x.right] 71)).cell? ⟨bf,off + k * 3 + 2,none⟩ = some (.slice F2 nF2 cF2) := ⟨by go_simp,by go_simp,by go_simp⟩
   have hbf : bf < (wr.alloc (.cells #[.int .i64 x.a, .int .i64 x.b, .int .i64 x.left, .int .i64 x.right] 71)).heap.size := by simp; omega
   have HGR1 := hid (HGR.out.below (Below.box (.cells #[.int .i64 x.a, .int .i64 x.b, .int .i64 x.left, .int .i64 x.right] 71)))
   clear hk hkn hx1 hr1 hagx hagr hst
   go_upto_region 5 with fail
   clear e0 e1 e2 e3 g0 g1 g2 HGR
   generalize wr.alloc (.cells #[.int .i64 x.a, .int .i64 x.b, .int .i64 x.left, .int .i64 x.right] 71) = U at *
   generalize wr.heap.size = T at *
   by_cases hL : x.left = (t : Int)
   ·by_cases hR : x.right = (t : Int)
    ·skip
     have NL := hid (show leftTo es fs t (k + 1) = radd (leftTo es fs t k) r by rw [leftTo,EX.out,if_pos hL,RX.out])
     have hLb : (x.left == (t : Int)) = true := by simp [hL]
     have NR := hid (show rightTo es fs t (k + 1) = radd (rightTo es fs t k) r by rw [rightTo,EX.out,if_pos hR,RX.out])
     have hRb : (x.right == (t : Int)) = true := by simp [hR]
     clear hL hR
     go_wp2_with fail
     obtain ⟨hgL,⟨u0,u1,u2⟩,⟨v0,v1,v2⟩⟩ := S1.out.ra
     refine wp_region_last (by simp) (by kernel_rfl) (by kernel_rfl) (by kernel_rfl) (by kernel_rfl) ?_
     dsimp only [List.dropLast,List.getLast,List.length]
     iterate 5
      apply walkM_eq
      case h =>
       intro yq zq wq hC hd
       obtain ⟨hcq,hfq⟩ := bcell hC
       simp at hd
       refine ⟨by go_simp; done, ?_⟩
       go_simp
       first | (go_ints; exact rfl) | (go_ints; rw [if_pos (by omega)]; try exact rfl) | exact rfl | (rw [if_pos (by omega)]; try exact rfl)
     refine walkM_call (MP.agg (radd (leftTo es fs t k) r)) ?_ ?_
     ·intro yq zq wq hC hd
      obtain ⟨hcq,hfq⟩ := bcell hC
      simp at hd
      refine ⟨by go_simp; done, ?_⟩
      apply Exists.intro
      apply Exists.intro
      constructor
      ·go_simp
       exact ⟨rfl,rfl⟩
      ·exact gives_agg (impl_RatAdd _ _ (leftTo es fs t k) r _ _ wq (S1.out.al.below (by (with_reducible repeat first | exact Below.refl _ _ | (refine Below.set ?_ ?_ _; rotate_left; (simp <;> omega)) | refine Below.box_ ?_ _ | refine Below.next ?_ (by assumption)))) (HGR1.out.below (by (with_reducible repeat first | exact Below.refl _ _ | (refine Below.set ?_ ?_ _; rotate_left; (simp <;> omega)) | refine Below.box_ ?_ _ | refine Below.next ?_ (by assumption)))))
     intro yq zq wb hC hd hdis0
     have hdis := hid hdis0
     clear hdis0
     simp at hd
     have q5 := hd.2.2.2.2.2
     obtain ⟨⟨ha5,hf5⟩,hr5⟩ := q5
     rw [← NL.out] at ha5
     obtain ⟨G1,nG1,cG1,w1',G2,nG2,cG2,w2',y5,hz5, _, _⟩ := TRat.agg ha5
     rw [y5] at ha5
     have HBb := hid (show Below U.heap.size U wb by (with_reducible repeat first | exact Below.refl _ _ | (refine Below.set ?_ ?_ _; rotate_left; (simp <;> omega)) | refine Below.box_ ?_ _ | refine Below.next ?_ (by assumption)))
     have A5 := hid ha5
     have hsg := HBb.out.size
     have hgas' := S1.out.ra.1
     have hgbs' := S1.out.rb.1
     have R5 := hid (show ∀ b ∈ zq 5,b ≠ ga ∧ b ≠ gb from fun b hb => by have := (hr5 b hb).1; (try simp at this); omega)
     have Sb := hid (S1.out.below HBb.out)
     have Sn := hid (Sb.out.setL A5.out R5.out)
     obtain ⟨_,⟨x0,x1,x2⟩,⟨x3,x4,x5⟩⟩ := Sb.out.ra
     have T3b := (HBb.out.cell (p := ⟨T,3,none⟩) hT).trans T3
     have hTb' : T < wb.heap.size := by omega
     have hgasb : ga < wb.heap.size := by omega
     have hgbsb : gb < wb.heap.size := by omega
     have j0b := (HBb.out.cell (p := ⟨bf, _,none⟩) hbf).trans j0
     have j1b := (HBb.out.cell (p := ⟨bf, _,none⟩) hbf).trans j1
     have j2b := (HBb.out.cell (p := ⟨bf, _,none⟩) hbf).trans j2
     have hbfb : bf < wb.heap.size := by omega
     have HGR2 := hid (HGR1.out.below HBb.out)
     generalize zq 5 = rz at *
     clear hd hdis hf5 hr5 hz5 ha5 hC u0 u1 u2 v0 v1 v2 T3 j0 j1 j2 hT hbf HGR1 S1 hsg hgas' hgbs' hgL Sb
     go_wp2_with fail
     have T3v : (((wb.setCell ⟨ga,0,none⟩ (.bool (leftTo es fs t (k + 1)).num.neg)).setCell ⟨ga,1,none⟩ (.slice G1 nG1 cG1)).setCell ⟨ga,2,none⟩ (.slice G2 nG2 cG2)).cell? ⟨T,3,none⟩ = some (.int .i64 x.right) := (World.cell?_of_block (a := ⟨T,3,none⟩) (heap_set3 T hTa)).trans T3b
     have j0v : (((wb.setCell ⟨ga,0,none⟩ (.bool (leftTo es fs t (k + 1)).num.neg)).setCell ⟨ga,1,none⟩ (.slice G1 nG1 cG1)).setCell ⟨ga,2,none⟩ (.slice G2 nG2 cG2)).cell? ⟨bf,off + k * 3,none⟩ = some (.bool r.num.neg) := (World.cell?_of_block (a := ⟨bf, _,none⟩) (heap_set3 bf hba)).trans j0b
     have j1v : (((wb.setCell ⟨ga,0,none⟩ (.bool (leftTo es fs t (k + 1)).num.neg)).setCell ⟨ga,1,none⟩ (.slice G1 nG1 cG1)).setCell ⟨ga,2,none⟩ (.slice G2 nG2 cG2)).cell? ⟨bf,off + k * 3 + 1,none⟩ = some (.slice F1 nF1 cF1) := (World.cell?_of_block (a := ⟨bf, _,none⟩) (heap_set3 bf hba)).trans j1b
     have j2v : (((wb.setCell ⟨ga,0,none⟩ (.bool (leftTo es fs t (k + 1)).num.neg)).setCell ⟨ga,1,none⟩ (.slice G1 nG1 cG1)).setCell ⟨ga,2,none⟩ (.slice G2 nG2 cG2)).cell? ⟨bf,off + k * 3 + 2,none⟩ = some (.slice F2 nF2 cF2) := (World.cell?_of_block (a := ⟨bf, _,none⟩) (heap_set3 bf hba)).trans j2b
     have HGRv := hid (show Agg (((wb.setCell ⟨ga,0,none⟩ (.bool (leftTo es fs t (k + 1)).num.neg)).setCell ⟨ga,1,none⟩ (.slice G1 nG1 cG1)).setCell ⟨ga,2,none⟩ (.slice G2 nG2 cG2)) (.agg #[.bool r.num.neg, .slice F1 nF1 cF1, .slice F2 nF2 cF2]) r fy from HGR2.out.keep (fun b hb => heap_set3 b (FYD.out b hb).1))
     have hTv : T < (((wb.setCell ⟨ga,0,none⟩ (.bool (leftTo es fs t (k + 1)).num.neg)).setCell ⟨ga,1,none⟩ (.slice G1 nG1 cG1)).setCell ⟨ga,2,none⟩ (.slice G2 nG2 cG2)).heap.size := by simp; omega
     have hbfv : bf < (((wb.setCell ⟨ga,0,none⟩ (.bool (leftTo es fs t (k + 1)).num.neg)).setCell ⟨ga,1,none⟩ (.slice G1 nG1 cG1)).setCell ⟨ga,2,none⟩ (.slice G2 nG2 cG2)).heap.size := by simp; omega
     clear T3b j0b j1b j2b HGR2 hTb' hbfb hgasb hgbsb x0 x1 x2 x3 x4 x5 A5 HBb
     generalize (((wb.setCell ⟨ga,0,none⟩ (.bool (leftTo es fs t (k + 1)).num.neg)).setCell ⟨ga,1,none⟩ (.slice G1 nG1 cG1)).setCell ⟨ga,2,none⟩ (.slice G2 nG2 cG2)) = V at *
     have T3 := T3v
     have j0 := j0v
     have j1 := j1v
     have j2 := j2v
     have HGR1 := HGRv
     have hT := hTv
     have hbf := hbfv
     clear T3v j0v j1v j2v HGRv hTv hbfv
     obtain ⟨hgR,⟨u0,u1,u2⟩,⟨v0,v1,v2⟩⟩ := Sn.out.rb
     refine wp_region_last (by simp) (by kernel_rfl) (by kernel_rfl) (by kernel_rfl) (by kernel_rfl) ?_
     dsimp only [List.dropLast,List.getLast,List.length]
     iterate 5
      apply walkM_eq
      case h =>
       intro yq zq wq hC hd
       obtain ⟨hcq,hfq⟩ := bcell hC
       simp at hd
       refine ⟨by go_simp; done, ?_⟩
       go_simp
       first | (go_ints; exact rfl) | (go_ints; rw [if_pos (by omega)]; try exact rfl) | exact rfl | (rw [if_pos (by omega)]; try exact rfl)
     refine walkM_call (MP.agg (radd (rightTo es fs t k) r)) ?_ ?_
     ·intro yq zq wq hC hd
      obtain ⟨hcq,hfq⟩ := bcell hC
      simp at hd
      refine ⟨by go_simp; done, ?_⟩
      apply Exists.intro
      apply Exists.intro
      constructor
      ·go_simp
       exact ⟨rfl,rfl⟩
      ·exact gives_agg (impl_RatAdd _ _ (rightTo es fs t k) r _ _ wq (Sn.out.ar.below (by (with_reducible repeat first | exact Below.refl _ _ | (refine Below.set ?_ ?_ _; rotate_left; (simp <;> omega)) | refine Below.box_ ?_ _ | refine Below.next ?_ (by assumption)))) (HGR1.out.below (by (with_reducible repeat first | exact Below.refl _ _ | (refine Below.set ?_ ?_ _; rotate_left; (simp <;> omega)) | refine Below.box_ ?_ _ | refine Below.next ?_ (by assumption)))))
     intro yq zq wb hC hd hdis0
     have hdis := hid hdis0
     clear hdis0
     simp at hd
     have q5 := hd.2.2.2.2.2
     obtain ⟨⟨ha5,hf5⟩,hr5⟩ := q5
     rw [← NR.out] at ha5
     obtain ⟨G1,nG1,cG1,w1',G2,nG2,cG2,w2',y5,hz5, _, _⟩ := TRat.agg ha5
     rw [y5] at ha5
     have HBb := hid (show Below V.heap.size V wb by (with_reducible repeat first | exact Below.refl _ _ | (refine Below.set ?_ ?_ _; rotate_left; (simp <;> omega)) | refine Below.box_ ?_ _ | refine Below.next ?_ (by assumption)))
     have A5 := hid ha5
     have hsg := HBb.out.size
     have hgas' := Sn.out.ra.1
     have hgbs' := Sn.out.rb.1
     have R5 := hid (show ∀ b ∈ zq 5,b ≠ ga ∧ b ≠ gb from fun b hb => by have := (hr5 b hb).1; (try simp at this); omega)
     have Sb := hid (Sn.out.below HBb.out)
     have Sm := hid (Sb.out.setR A5.out R5.out)
     obtain ⟨_,⟨x0,x1,x2⟩,⟨x3,x4,x5⟩⟩ := Sb.out.rb
     have T3b := (HBb.out.cell (p := ⟨T,3,none⟩) hT).trans T3
     have hTb' : T < wb.heap.size := by omega
     have hgasb : ga < wb.heap.size := by omega
     have hgbsb : gb < wb.heap.size := by omega
     generalize zq 5 = rz at *
     clear hd hdis hf5 hr5 hz5 ha5 hC u0 u1 u2 v0 v1 v2 T3 j0 j1 j2 hT hbf HGR1 Sn hsg hgas' hgbs' hgR Sb
     go_wp2_with fail
     go_roundg g
     case measure => omega
     case rel => exact ⟨k + 1, _, _, _, _, _, _, _, _, _, _, _, _, _, _,hk'.out,by go_num,(show OutSt w _ ga gb _ nf cE es eb (leftTo es fs t (k + 1)) _ _ _ _ _ _ _ (rightTo es fs t (k + 1)) _ _ _ _ _ _ _ from Sm.out)⟩
    ·skip
     have NL := hid (show leftTo es fs t (k + 1) = radd (leftTo es fs t k) r by rw [leftTo,EX.out,if_pos hL,RX.out])
     have hLb : (x.left == (t : Int)) = true := by simp [hL]
     have NR := hid (show rightTo es fs t (k + 1) = rightTo es fs t k by rw [rightTo,EX.out,if_neg hR])
     have hRb : (x.right == (t : Int)) = false := by simp [hR]
     clear hL hRb
     go_wp2_with fail
     obtain ⟨hgL,⟨u0,u1,u2⟩,⟨v0,v1,v2⟩⟩ := S1.out.ra
     refine wp_region_last (by simp) (by kernel_rfl) (by kernel_rfl) (by kernel_rfl) (by kernel_rfl) ?_
     dsimp only [List.dropLast,List.getLast,List.length]
     iterate 5
      apply walkM_eq
      case h =>
       intro yq zq wq hC hd
       obtain ⟨hcq,hfq⟩ := bcell hC
       simp at hd
       refine ⟨by go_simp; done, ?_⟩
       go_simp
       first | (go_ints; exact rfl) | (go_ints; rw [if_pos (by omega)]; try exact rfl) | exact rfl | (rw [if_pos (by omega)]; try exact rfl)
     refine walkM_call (MP.agg (radd (leftTo es fs t k) r)) ?_ ?_
     ·intro yq zq wq hC hd
      obtain ⟨hcq,hfq⟩ := bcell hC
      simp at hd
      refine ⟨by go_simp; done, ?_⟩
      apply Exists.intro
      apply Exists.intro
      constructor
      ·go_simp
       exact ⟨rfl,rfl⟩
      ·exact gives_agg (impl_RatAdd _ _ (leftTo es fs t k) r _ _ wq (S1.out.al.below (by (with_reducible repeat first | exact Below.refl _ _ | (refine Below.set ?_ ?_ _; rotate_left; (simp <;> omega)) | refine Below.box_ ?_ _ | refine Below.next ?_ (by assumption)))) (HGR1.out.below (by (with_reducible repeat first | exact Below.refl _ _ | (refine Below.set ?_ ?_ _; rotate_left; (simp <;> omega)) | refine Below.box_ ?_ _ | refine Below.next ?_ (by assumption)))))
     intro yq zq wb hC hd hdis0
     have hdis := hid hdis0
     clear hdis0
     simp at hd
     have q5 := hd.2.2.2.2.2
     obtain ⟨⟨ha5,hf5⟩,hr5⟩ := q5
     rw [← NL.out] at ha5
     obtain ⟨G1,nG1,cG1,w1',G2,nG2,cG2,w2',y5,hz5, _, _⟩ := TRat.agg ha5
     rw [y5] at ha5
     have HBb := hid (show Below U.heap.size U wb by (with_reducible repeat first | exact Below.refl _ _ | (refine Below.set ?_ ?_ _; rotate_left; (simp <;> omega)) | refine Below.box_ ?_ _ | refine Below.next ?_ (by assumption)))
     have A5 := hid ha5
     have hsg := HBb.out.size
     have hgas' := S1.out.ra.1
     have hgbs' := S1.out.rb.1
     have R5 := hid (show ∀ b ∈ zq 5,b ≠ ga ∧ b ≠ gb from fun b hb => by have := (hr5 b hb).1; (try simp at this); omega)
     have Sb := hid (S1.out.below HBb.out)
     have Sn := hid (Sb.out.setL A5.out R5.out)
     obtain ⟨_,⟨x0,x1,x2⟩,⟨x3,x4,x5⟩⟩ := Sb.out.ra
     have T3b := (HBb.out.cell (p := ⟨T,3,none⟩) hT).trans T3
     have hTb' : T < wb.heap.size := by omega
     have hgasb : ga < wb.heap.size := by omega
     have hgbsb : gb < wb.heap.size := by omega
     generalize zq 5 = rz at *
     clear hd hdis hf5 hr5 hz5 ha5 hC u0 u1 u2 v0 v1 v2 T3 j0 j1 j2 hT hbf HGR1 S1 hsg hgas' hgbs' hgL Sb
     go_wp2_with fail
     go_roundg g
     case measure => omega
     case rel => exact ⟨k + 1, _, _, _, _, _, _, _, _, _, _, _, _, _, _,hk'.out,by go_num,(show OutSt w _ ga gb _ nf cE es eb (leftTo es fs t (k + 1)) _ _ _ _ _ _ _ (rightTo es fs t (k + 1)) _ _ _ _ _ _ _ from by rw [NR.out]; exact Sn.out)⟩
   ·by_cases hR : x.right = (t : Int)
    ·skip
     have NL := hid (show leftTo es fs t (k + 1) = leftTo es fs t k by rw [leftTo,EX.out,if_neg hL])
     have hLb : (x.left == (t : Int)) = false := by simp [hL]
     have NR := hid (show rightTo es fs t (k + 1) = radd (rightTo es fs t k) r by rw [rightTo,EX.out,if_pos hR,RX.out])
     have hRb : (x.right == (t : Int)) = true := by simp [hR]
     clear hLb hR
     go_wp2_with fail
     obtain ⟨hgR,⟨u0,u1,u2⟩,⟨v0,v1,v2⟩⟩ := S1.out.rb
     refine wp_region_last (by simp) (by kernel_rfl) (by kernel_rfl) (by kernel_rfl) (by kernel_rfl) ?_
     dsimp only [List.dropLast,List.getLast,List.length]
     iterate 5
      apply walkM_eq
      case h =>
       intro yq zq wq hC hd
       obtain ⟨hcq,hfq⟩ := bcell hC
       simp at hd
       refine ⟨by go_simp; done, ?_⟩
       go_simp
       first | (go_ints; exact rfl) | (go_ints; rw [if_pos (by omega)]; try exact rfl) | exact rfl | (rw [if_pos (by omega)]; try exact rfl)
     refine walkM_call (MP.agg (radd (rightTo es fs t k) r)) ?_ ?_
     ·intro yq zq wq hC hd
      obtain ⟨hcq,hfq⟩ := bcell hC
      simp at hd
      refine ⟨by go_simp; done, ?_⟩
      apply Exists.intro
      apply Exists.intro
      constructor
      ·go_simp
       exact ⟨rfl,rfl⟩
      ·exact gives_agg (impl_RatAdd _ _ (rightTo es fs t k) r _ _ wq (S1.out.ar.below (by (with_reducible repeat first | exact Below.refl _ _ | (refine Below.set ?_ ?_ _; rotate_left; (simp <;> omega)) | refine Below.box_ ?_ _ | refine Below.next ?_ (by assumption)))) (HGR1.out.below (by (with_reducible repeat first | exact Below.refl _ _ | (refine Below.set ?_ ?_ _; rotate_left; (simp <;> omega)) | refine Below.box_ ?_ _ | refine Below.next ?_ (by assumption)))))
     intro yq zq wb hC hd hdis0
     have hdis := hid hdis0
     clear hdis0
     simp at hd
     have q5 := hd.2.2.2.2.2
     obtain ⟨⟨ha5,hf5⟩,hr5⟩ := q5
     rw [← NR.out] at ha5
     obtain ⟨G1,nG1,cG1,w1',G2,nG2,cG2,w2',y5,hz5, _, _⟩ := TRat.agg ha5
     rw [y5] at ha5
     have HBb := hid (show Below U.heap.size U wb by (with_reducible repeat first | exact Below.refl _ _ | (refine Below.set ?_ ?_ _; rotate_left; (simp <;> omega)) | refine Below.box_ ?_ _ | refine Below.next ?_ (by assumption)))
     have A5 := hid ha5
     have hsg := HBb.out.size
     have hgas' := S1.out.ra.1
     have hgbs' := S1.out.rb.1
     have R5 := hid (show ∀ b ∈ zq 5,b ≠ ga ∧ b ≠ gb from fun b hb => by have := (hr5 b hb).1; (try simp at this); omega)
     have Sb := hid (S1.out.below HBb.out)
     have Sn := hid (Sb.out.setR A5.out R5.out)
     obtain ⟨_,⟨x0,x1,x2⟩,⟨x3,x4,x5⟩⟩ := Sb.out.rb
     have T3b := (HBb.out.cell (p := ⟨T,3,none⟩) hT).trans T3
     have hTb' : T < wb.heap.size := by omega
     have hgasb : ga < wb.heap.size := by omega
     have hgbsb : gb < wb.heap.size := by omega
     generalize zq 5 = rz at *
     clear hd hdis hf5 hr5 hz5 ha5 hC u0 u1 u2 v0 v1 v2 T3 j0 j1 j2 hT hbf HGR1 S1 hsg hgas' hgbs' hgR Sb
     go_wp2_with fail
     go_roundg g
     case measure => omega
     case rel => exact ⟨k + 1, _, _, _, _, _, _, _, _, _, _, _, _, _, _,hk'.out,by go_num,(show OutSt w _ ga gb _ nf cE es eb (leftTo es fs t (k + 1)) _ _ _ _ _ _ _ (rightTo es fs t (k + 1)) _ _ _ _ _ _ _ from by rw [NL.out]; exact Sn.out)⟩
    ·skip
     have NL := hid (show leftTo es fs t (k + 1) = leftTo es fs t k by rw [leftTo,EX.out,if_neg hL])
     have hLb : (x.left == (t : Int)) = false := by simp [hL]
     have NR := hid (show rightTo es fs t (k + 1) = rightTo es fs t k by rw [rightTo,EX.out,if_neg hR])
     have hRb : (x.right == (t : Int)) = false := by simp [hR]
     clear hLb hRb
     go_wp2_with fail
     go_roundg g
     case measure => omega
     case rel => exact ⟨k + 1, _, _, _, _, _, _, _, _, _, _, _, _, _, _,hk'.out,by go_num,(show OutSt w _ ga gb _ nf cE es eb (leftTo es fs t (k + 1)) _ _ _ _ _ _ _ (rightTo es fs t (k + 1)) _ _ _ _ _ _ _ from by rw [NL.out,NR.out]; exact S1.out)⟩
  ·obtain rfl : k = nf := by omega
   have hki : ¬ ((k : Int) < k) := by omega
   have EQ := hid (show rsub (leftTo es fs t k) (rightTo es fs t k) = outP es fs t by unfold outP; rw [HNF.out])
   obtain ⟨hgL,⟨u0,u1,u2⟩,⟨v0,v1,v2⟩⟩ := hst.out.ra
   obtain ⟨hgR,⟨x0,x1,x2⟩,⟨y0,y1,y2⟩⟩ := hst.out.rb
   obtain ⟨r0,r0f⟩ := box_cell hst.out.res (j := 0) rfl
   obtain ⟨r1,r1f⟩ := box_cell hst.out.res (j := 1) rfl
   obtain ⟨r2,r2f⟩ := box_cell hst.out.res (j := 2) rfl
   have hzr1 : w.heap.size + 1 < wr.heap.size := lt_of_get hst.out.res
   have HBq := hid hst.out.bl
   clear hk hkn
   go_wp2_with fail
   refine (impl_RatSub _ _ (leftTo es fs t k) (rightTo es fs t k) _ _ wr hst.out.al hst.out.ar).mono ?_
   rintro _ w9 ⟨v9,s9,rfl,ha9,ho9,hb9⟩
   rw [EQ.out] at ha9
   obtain ⟨G1,nG1,cG1,w1',G2,nG2,cG2,w2',rfl,hz9, _, _⟩ := TRat.agg ha9
   have A9 := hid ha9; have O9 := hid ho9
   obtain ⟨hc_w9,hf_w9⟩ := bcell hb9
   have hz9' : w.heap.size + 1 < w9.heap.size := by have := hb9.size; omega
   have R9 := hid (show ∀ b ∈ s9,w.heap.size + 2 ≤ b from fun b hb => by have := (ho9.2 b hb).1; omega)
   have hbw := Below.next HBq.out hb9
   clear ha9 ho9 hz9 hst
   go_wp2
   refine bodyPost_ret (v := .agg #[.bool (outP es fs t).num.neg, .slice G1 nG1 cG1, .slice G2 nG2 cG2]) (by simp [results,Tryz.results48,go_sem, *]) rfl ?_
   refine agg_fin (lo := w.heap.size + 2) A9.out O9.out.free R9.out (by omega) ?_ ?_
   ·(with_reducible repeat first | exact Above.refl _ _ | (refine Above.set ?_ ?_ _; rotate_left; (simp <;> omega)) | refine Above.box ?_ _ | refine Above.below ?_ (by assumption))
   ·(with_reducible repeat first | exact Below.refl _ _ | (refine Below.set ?_ ?_ _; rotate_left; (simp <;> omega)) | refine Below.box_ ?_ _ | refine Below.next ?_ (by assumption))
end Go.Proofs.YtpfipnankjeokaaGreat.X

/- squareOver of the program: the integral of the square of a field plus a constant one. -/
namespace Go.Proofs.YtpfipnankjeokaaGreat.X
open Go.RowKit Go.XB Go.XN
def mids3' (a b c : TPoint) : List TPoint := [pmid b c,pmid c a,pmid a b]
def sqTo (a b c : TPoint) (fs : List TRat) (more : TPoint) : Nat → TRat
 | 0 => rint 0
 | k + 1 => radd (sqTo a b c fs more k) (inner (padd (fieldP a b c fs ((mids3' a b c).getD k pt0)) more) (padd (fieldP a b c fs ((mids3' a b c).getD k pt0)) more))
def sqOver (a b c : TPoint) (fs : List TRat) (more : TPoint) : TRat := rmul (areaP a b c) (rmul (mkR 1 3) (sqTo a b c fs more 3))
attribute [local go_sem] fillBy opAt deps depOf Region.wanted yielded
attribute [local simp] deps depOf MP.eq MP.agg MP.sl Facts
set_option linter.constructorNameAsVariable false

set_option maxHeartbeats 8000000 in
set_option maxRecDepth 10000 in
theorem impl_squareOver (A : Option Addr) (c : Nat) (a1 b1 c1 : TPoint) (bs : List Nat) (B : Option Addr) (d : Nat) (fs : List TRat) (ds : List Nat) (vz : Value) (z : TPoint) (bz : List Nat) (w : World) (hx : Sl w A 3 c [a1,b1,c1] bs) (hf : Sl w B 3 d fs ds) (hz : Agg w vz z bz)
  (hd1 : ratOkB (darea a1 b1 c1) = true) (hd2 : (darea a1 b1 c1).num.mag ≠ []) :
  Calls Tryz.prog 50 #[.slice A 3 c, .slice B 3 d,vz] w (GivesAgg w (sqOver a1 b1 c1 fs z)) := by
 have HX := hid hx; have HF := hid hf; have HZ := hid hz; have HD1 := hid hd1; have HD2 := hid hd2
 obtain ⟨Z1,nZ1,cZ1,r1,Z2,nZ2,cZ2,r2,Z4,nZ4,cZ4,r4,Z5,nZ5,cZ5,r5,rfl,rfl,hr1,hr2,hr4,hr5⟩ := TPoint.agg hz
 clear hr1 hr2 hr4 hr5 hx hf hz hd1 hd2
 go_enter Tryz.func50,Tryz.ntmps50
 go_wp2_with fail
 refine (impl_RatFromInt 0 _ (by constructor <;> decide)).mono ?_
 rintro _ w1 ⟨v1,s1,rfl,ha1,ho1,hb1⟩
 obtain ⟨O1,nO1,cO1,o1,O2,nO2,cO2,o2,rfl,hzo, _, _⟩ := TRat.agg ha1
 have HA := hid ha1; have HO := hid ho1
 clear ha1 ho1 hzo
 obtain ⟨hc_w1,hf_w1⟩ := bcell hb1
 have hz0_w1 : w.heap.size < w1.heap.size := by have := hb1.size; (try simp at this); omega
 have hz1_w1 : w.heap.size + 1 < w1.heap.size := by have := hb1.size; (try simp at this); omega
 have HB1 := hid (show Below w.heap.size w w1 by (with_reducible repeat first | exact Below.refl _ _ | (refine Below.set ?_ ?_ _; rotate_left; (simp <;> omega)) | refine Below.box_ ?_ _ | refine Below.next ?_ (by assumption)))
 have HW1 := hid (show w.heap.size + 2 ≤ w1.heap.size by have := hb1.size; simp at this; omega)
 have HR := hid (show w1.heap[w.heap.size + 1]? = some (.cells #[.bool false, .slice none 0 0, .slice none 0 0] 32) from by
  refine (hb1.block _ (by simp)).trans ?_
  have := heap_alloc_new (w.alloc (.cells #[.bool z.x.num.neg, .slice Z1 nZ1 cZ1, .slice Z2 nZ2 cZ2, .bool z.y.num.neg, .slice Z4 nZ4 cZ4, .slice Z5 nZ5 cZ5] 34)) (.cells #[.bool false, .slice none 0 0, .slice none 0 0] 32)
  rw [World.size_alloc] at this
  exact this)
 have hzw1 : w.heap.size < w1.heap.size := by have := HW1.out; omega
 have k0 : w1.cell? ⟨w.heap.size,0,none⟩ = some (.bool z.x.num.neg) := by go_simp
 have k1 : w1.cell? ⟨w.heap.size,1,none⟩ = some (.slice Z1 nZ1 cZ1) := by go_simp
 have k2 : w1.cell? ⟨w.heap.size,2,none⟩ = some (.slice Z2 nZ2 cZ2) := by go_simp
 have k3 : w1.cell? ⟨w.heap.size,3,none⟩ = some (.bool z.y.num.neg) := by go_simp
 have k4 : w1.cell? ⟨w.heap.size,4,none⟩ = some (.slice Z4 nZ4 cZ4) := by go_simp
 have k5 : w1.cell? ⟨w.heap.size,5,none⟩ = some (.slice Z5 nZ5 cZ5) := by go_simp
 clear hc_w1 hf_w1
 go_wp2_with fail
 refine (impl_midPoints A c a1 b1 c1 bs (w1.alloc (.cells #[.bool (rint 0).num.neg, .slice O1 nO1 cO1, .slice O2 nO2 cO2] 32)) ((HX.out.below HB1.out).below (Below.box _))).mono ?_
 rintro _ w2 ⟨M,nM,cM,ms,rfl,hm,hom,hb2⟩
 obtain rfl : 3 = nM := hm.1
 have HM := hid (show Sl w2 M 3 cM (mids3' a1 b1 c1) ms from hm)
 have HB12 := hid (show Below w1.heap.size w1 w2 from Below.trans (Below.box _) (hb2.mono (by simp)))
 have HB2 := hid (Below.next HB1.out HB12.out)
 have HMS := hid (show ∀ b ∈ ms,w1.heap.size + 1 ≤ b from fun b hb => by have := (hom.2 b hb).1; simp at this; exact this)
 obtain ⟨hc_w2,hf_w2⟩ := bcell hb2
 have hz12 : w1.heap.size < w2.heap.size := by have := hb2.size; simp at this; omega
 have hz02 : w.heap.size < w2.heap.size := by omega
 clear hm hom hb2
 go_wp2_with fail
 go_loopg [15] 3 (fun g s wr => ∃ (k : Nat) (P1 : Option Addr) (n1 m1 : Nat) (P2 : Option Addr) (n2 m2 : Nat) (rs : List Nat),k + g = 3 ∧ s = .int .i64 k ∧ Hid (Agg wr (.agg #[.bool (sqTo a1 b1 c1 fs z k).num.neg, .slice P1 n1 m1, .slice P2 n2 m2]) (sqTo a1 b1 c1 fs z k) rs) ∧ Hid (Free wr rs ∧ ∀ b ∈ rs,w.heap.size + 2 ≤ b ∧ b ≠ w1.heap.size) ∧ Below w.heap.size w wr ∧ Hid (Sl wr M 3 cM (mids3' a1 b1 c1) ms) ∧ Hid (wr.heap[w.heap.size + 1]? = some (.cells #[.bool false, .slice none 0 0, .slice none 0 0] 32)) ∧ w1.heap.size < wr.heap.size ∧ (wr.cell? ⟨w.heap.size,0,none⟩ = some (.bool z.x.num.neg) ∧ wr.cell? ⟨w.heap.size,1,none⟩ = some (.slice Z1 nZ1 cZ1) ∧ wr.cell? ⟨w.heap.size,2,none⟩ = some (.slice Z2 nZ2 cZ2) ∧ wr.cell? ⟨w.heap.size,3,none⟩ = some (.bool z.y.num.neg) ∧ wr.cell? ⟨w.heap.size,4,none⟩ = some (.slice Z4 nZ4 cZ4) ∧ wr.cell? ⟨w.heap.size,5,none⟩ = some (.slice Z5 nZ5 cZ5)) ∧ (wr.cell? ⟨w1.heap.size,0,none⟩ = some (.bool (sqTo a1 b1 c1 fs z k).num.neg) ∧ wr.cell? ⟨w1.heap.size,1,none⟩ = some (.slice P1 n1 m1) ∧ wr.cell? ⟨w1.heap.size,2,none⟩ = some (.slice P2 n2 m2)) ∧ (wr.frozen? ⟨w1.heap.size,0,none⟩ = false ∧ wr.frozen? ⟨w1.heap.size,1,none⟩ = false ∧ wr.frozen? ⟨w1.heap.size,2,none⟩ = false))
 case atStart =>
  refine ⟨0,O1,nO1,cO1,O2,nO2,cO2,s1,rfl,rfl,HA.out.below HB12.out,⟨HO.out.free.below HB12.out,fun b hb => by have := HO.out.range b hb; simp at this; omega⟩,HB2.out,HM.out,heap_keep' HR.out HB12.out,hz12,⟨?_, ?_, ?_, ?_, ?_, ?_⟩,⟨?_, ?_, ?_⟩,⟨?_, ?_, ?_⟩⟩
  all_goals (try unfold sqTo)
  all_goals go_simp
 case round =>
  clear hc_w2 hf_w2 k0 k1 k2 k3 k4 k5 HM
  obtain ⟨k,P1,n1,m1,P2,n2,m2,rs,hk,rfl,hag,hfr,hb,HM,hres,hsz,⟨z0,z1,z2,z3,z4,z5⟩,⟨p0,p1,p2⟩,⟨f0,f1,f2⟩⟩ := hrel
  have HB := hid hb
  have hzr : w.heap.size < wr.heap.size := by have := HW1.out; omega
  rcases Nat.lt_or_ge k 3 with hkn | hkn
  ·have hki : (k : Int) < 3 := by omega
   obtain ⟨g,rfl⟩ : ∃ g,gk = g + 1 := ⟨gk - 1,by omega⟩
   have hk' := hid (show k + 1 + g = 3 by omega)
   have hk3 : k + 1 ≤ 3 := hkn
   obtain ⟨be,of,x,D1,nD1,cD1,d1,D2,nD2,cD2,d2,D4,nD4,cD4,d4,D5,nD5,cD5,d5,hA1,hbl,hx1,e0,e1,e2,e3,e4,e5,hagx⟩ := TPoint.elemA HM.out hkn
   subst hA1
   have NX := hid (show radd (sqTo a1 b1 c1 fs z k) (inner (padd (fieldP a1 b1 c1 fs x) z) (padd (fieldP a1 b1 c1 fs x) z)) = sqTo a1 b1 c1 fs z (k + 1) by
    rw [sqTo,List.getD_eq_getElem?_getD,hx1]; rfl)
   have HGX := hid hagx
   generalize sqTo a1 b1 c1 fs z k = out at *
   clear hk hkn hx1 hagx hb
   go_wp2_with fail
   refine wp_region_last (by simp) (by kernel_rfl) (by kernel_rfl) (by kernel_rfl) (by kernel_rfl) ?_
   dsimp only [List.dropLast,List.getLast,List.length]
   iterate 3
    apply walkM_eq
    case h =>
     intro yq zq wq hC hd
     obtain ⟨hcq,hfq⟩ := bcell hC
     simp at hd
     refine ⟨by go_simp; done, ?_⟩
     go_simp
     first | (go_ints; exact rfl) | (go_ints; rw [if_pos (by omega)]; try exact rfl) | exact rfl | (rw [if_pos (by omega)]; try exact rfl)
   refine walkM_call (MP.agg (fieldP a1 b1 c1 fs x)) ?_ ?_
   ·intro yq zq wq hC hd
    obtain ⟨hcq,hfq⟩ := bcell hC
    simp at hd
    refine ⟨by go_simp; done, ?_⟩
    apply Exists.intro
    apply Exists.intro
    constructor
    ·go_simp
     exact ⟨rfl,rfl⟩
    ·exact gives_agg (impl_field A c a1 b1 c1 bs B d fs ds _ x _ wq ((HX.out.below HB.out).below (by (with_reducible repeat first | exact Below.refl _ _ | (refine Below.set ?_ ?_ _; rotate_left; (simp <;> omega)) | refine Below.box_ ?_ _ | refine Below.next ?_ (by assumption)))) ((HF.out.below HB.out).below (by (with_reducible repeat first | exact Below.refl _ _ | (refine Below.set ?_ ?_ _; rotate_left; (simp <;> omega)) | refine Below.box_ ?_ _ | refine Below.next ?_ (by assumption)))) (HGX.out.below (by (with_reducible repeat first | exact Below.refl _ _ | (refine Below.set ?_ ?_ _; rotate_left; (simp <;> omega)) | refine Below.box_ ?_ _ | refine Below.next ?_ (by assumption)))) HD1.out HD2.out)
   apply walkM_eq
   case h =>
    intro yq zq wq hC hd
    obtain ⟨hcq,hfq⟩ := bcell hC
    simp at hd
    refine ⟨by go_simp; done, ?_⟩
    go_simp
    first | (go_ints; exact rfl) | (go_ints; rw [if_pos (by omega)]; try exact rfl) | exact rfl | (rw [if_pos (by omega)]; try exact rfl)
   refine walkM_call (MP.agg (padd (fieldP a1 b1 c1 fs x) z)) ?_ ?_
   ·intro yq zq wq hC hd
    obtain ⟨hcq,hfq⟩ := bcell hC
    simp at hd
    refine ⟨by go_simp; done, ?_⟩
    apply Exists.intro
    apply Exists.intro
    constructor
    ·go_simp
     exact ⟨rfl,rfl⟩
    ·obtain ⟨t, _⟩ := hd
     exact gives_agg (impl_AddPoints _ _ (fieldP a1 b1 c1 fs x) z _ _ wq t.1 ((HZ.out.below HB.out).below (by (with_reducible repeat first | exact Below.refl _ _ | (refine Below.set ?_ ?_ _; rotate_left; (simp <;> omega)) | refine Below.box_ ?_ _ | refine Below.next ?_ (by assumption)))))
   refine walkM_new #[.bool false, .slice none 0 0, .slice none 0 0, .bool false, .slice none 0 0, .slice none 0 0] 34 ?_ ?_
   ·intro yq zq wq hC hd
    refine ⟨by go_simp; done, ?_⟩
    go_simp
   intro yq zq wa hC hd hdis0
   have hdis := hid hdis0
   clear hdis0
   simp at hd
   have q5 := hd.2.2.2.2.2.1
   have q6 := hd.2.2.2.2.2.2
   obtain ⟨⟨ha5,hf5⟩,hr5⟩ := q5
   obtain ⟨⟨gb,y6,z6,hgb⟩,hr6⟩ := q6
   obtain ⟨E1,nE1,cE1,u1,E2,nE2,cE2,u2,E4,nE4,cE4,u4,E5,nE5,cE5,u5,y5,hz5, _, _, _, _⟩ := TPoint.agg ha5
   rw [y5] at ha5
   rw [z6] at hr6
   have hgr6 := hr6 gb (by simp)
   have HBa := hid (show Below wr.heap.size wr wa by (with_reducible repeat first | exact Below.refl _ _ | (refine Below.set ?_ ?_ _; rotate_left; (simp <;> omega)) | refine Below.box_ ?_ _ | refine Below.next ?_ (by assumption)))
   have hgb1 : wr.heap.size ≤ gb := by have := hgr6.1; (try simp at this); omega
   have D5 := hid (show ∀ b ∈ zq 5,b ≠ gb from fun b hb e => by have := hdis.out 5 6 (by decide) (by decide) (by decide) b hb; rw [z6] at this; simp [e] at this)
   obtain ⟨t0,t0f⟩ := box_cell hgb (j := 0) rfl
   obtain ⟨t1,t1f⟩ := box_cell hgb (j := 1) rfl
   obtain ⟨t2,t2f⟩ := box_cell hgb (j := 2) rfl
   obtain ⟨t3,t3f⟩ := box_cell hgb (j := 3) rfl
   obtain ⟨t4,t4f⟩ := box_cell hgb (j := 4) rfl
   obtain ⟨t5,t5f⟩ := box_cell hgb (j := 5) rfl
   have A5 := hid ha5
   have hgb2 : gb < wa.heap.size := hgr6.2
   have HBs := hid (show Below wr.heap.size wr ((((((wa.setCell ⟨gb,0,none⟩ (.bool (padd (fieldP a1 b1 c1 fs x) z).x.num.neg)).setCell ⟨gb,1,none⟩ (.slice E1 nE1 cE1)).setCell ⟨gb,2,none⟩ (.slice E2 nE2 cE2)).setCell ⟨gb,3,none⟩ (.bool (padd (fieldP a1 b1 c1 fs x) z).y.num.neg)).setCell ⟨gb,4,none⟩ (.slice E4 nE4 cE4)).setCell ⟨gb,5,none⟩ (.slice E5 nE5 cE5)) from ((((((HBa.out).setCell (p := ⟨gb,0,none⟩) hgb1 _).setCell (p := ⟨gb,1,none⟩) hgb1 _).setCell (p := ⟨gb,2,none⟩) hgb1 _).setCell (p := ⟨gb,3,none⟩) hgb1 _).setCell (p := ⟨gb,4,none⟩) hgb1 _).setCell (p := ⟨gb,5,none⟩) hgb1 _)
   have AW := hid (show Agg ((((((wa.setCell ⟨gb,0,none⟩ (.bool (padd (fieldP a1 b1 c1 fs x) z).x.num.neg)).setCell ⟨gb,1,none⟩ (.slice E1 nE1 cE1)).setCell ⟨gb,2,none⟩ (.slice E2 nE2 cE2)).setCell ⟨gb,3,none⟩ (.bool (padd (fieldP a1 b1 c1 fs x) z).y.num.neg)).setCell ⟨gb,4,none⟩ (.slice E4 nE4 cE4)).setCell ⟨gb,5,none⟩ (.slice E5 nE5 cE5)) (.agg #[.bool (padd (fieldP a1 b1 c1 fs x) z).x.num.neg, .slice E1 nE1 cE1, .slice E2 nE2 cE2, .bool (padd (fieldP a1 b1 c1 fs x) z).y.num.neg, .slice E4 nE4 cE4, .slice E5 nE5 cE5]) (padd (fieldP a1 b1 c1 fs x) z) (zq 5) from A5.out.keep fun b hb => heap_setCells gb [.bool (padd (fieldP a1 b1 c1 fs x) z).x.num.neg, .slice E1 nE1 cE1, .slice E2 nE2 cE2, .bool (padd (fieldP a1 b1 c1 fs x) z).y.num.neg, .slice E4 nE4 cE4, .slice E5 nE5 cE5] wa 0 b (D5.out b hb))
   generalize zq 5 = r5 at *
   clear hd hdis hf5 hr5 hz5 hr6 hC ha5 hgb z6 hgr6 D5
   go_wp2_with fail
   have g0 : ((((((wa.setCell ⟨gb,0,none⟩ (.bool (padd (fieldP a1 b1 c1 fs x) z).x.num.neg)).setCell ⟨gb,1,none⟩ (.slice E1 nE1 cE1)).setCell ⟨gb,2,none⟩ (.slice E2 nE2 cE2)).setCell ⟨gb,3,none⟩ (.bool (padd (fieldP a1 b1 c1 fs x) z).y.num.neg)).setCell ⟨gb,4,none⟩ (.slice E4 nE4 cE4)).setCell ⟨gb,5,none⟩ (.slice E5 nE5 cE5)).cell? ⟨gb,0,none⟩ = some (.bool (padd (fieldP a1 b1 c1 fs x) z).x.num.neg) := by go_simp
   have g1 : ((((((wa.setCell ⟨gb,0,none⟩ (.bool (padd (fieldP a1 b1 c1 fs x) z).x.num.neg)).setCell ⟨gb,1,none⟩ (.slice E1 nE1 cE1)).setCell ⟨gb,2,none⟩ (.slice E2 nE2 cE2)).setCell ⟨gb,3,none⟩ (.bool (padd (fieldP a1 b1 c1 fs x) z).y.num.neg)).setCell ⟨gb,4,none⟩ (.slice E4 nE4 cE4)).setCell ⟨gb,5,none⟩ (.slice E5 nE5 cE5)).cell? ⟨gb,1,none⟩ = some (.slice E1 nE1 cE1) := by go_simp
   have g2 : ((((((wa.setCell ⟨gb,0,none⟩ (.bool (padd (fieldP a1 b1 c1 fs x) z).x.num.neg)).setCell ⟨gb,1,none⟩ (.slice E1 nE1 cE1)).setCell ⟨gb,2,none⟩ (.slice E2 nE2 cE2)).setCell ⟨gb,3,none⟩ (.bool (padd (fieldP a1 b1 c1 fs x) z).y.num.neg)).setCell ⟨gb,4,none⟩ (.slice E4 nE4 cE4)).setCell ⟨gb,5,none⟩ (.slice E5 nE5 cE5)).cell? ⟨gb,2,none⟩ = some (.slice E2 nE2 cE2) := by go_simp
   have g3 : ((((((wa.setCell ⟨gb,0,none⟩ (.bool (padd (fieldP a1 b1 c1 fs x) z).x.num.neg)).setCell ⟨gb,1,none⟩ (.slice E1 nE1 cE1)).setCell ⟨gb,2,none⟩ (.slice E2 nE2 cE2)).setCell ⟨gb,3,none⟩ (.bool (padd (fieldP a1 b1 c1 fs x) z).y.num.neg)).setCell ⟨gb,4,none⟩ (.slice E4 nE4 cE4)).setCell ⟨gb,5,none⟩ (.slice E5 nE5 cE5)).cell? ⟨gb,3,none⟩ = some (.bool (padd (fieldP a1 b1 c1 fs x) z).y.num.neg) := by go_simp
   have g4 : ((((((wa.setCell ⟨gb,0,none⟩ (.bool (padd (fieldP a1 b1 c1 fs x) z).x.num.neg)).setCell ⟨gb,1,none⟩ (.slice E1 nE1 cE1)).setCell ⟨gb,2,none⟩ (.slice E2 nE2 cE2)).setCell ⟨gb,3,none⟩ (.bool (padd (fieldP a1 b1 c1 fs x) z).y.num.neg)).setCell ⟨gb,4,none⟩ (.slice E4 nE4 cE4)).setCell ⟨gb,5,none⟩ (.slice E5 nE5 cE5)).cell? ⟨gb,4,none⟩ = some (.slice E4 nE4 cE4) := by go_simp
   have g5 : ((((((wa.setCell ⟨gb,0,none⟩ (.bool (padd (fieldP a1 b1 c1 fs x) z).x.num.neg)).setCell ⟨gb,1,none⟩ (.slice E1 nE1 cE1)).setCell ⟨gb,2,none⟩ (.slice E2 nE2 cE2)).setCell ⟨gb,3,none⟩ (.bool (padd (fieldP a1 b1 c1 fs x) z).y.num.neg)).setCell ⟨gb,4,none⟩ (.slice E4 nE4 cE4)).setCell ⟨gb,5,none⟩ (.slice E5 nE5 cE5)).cell? ⟨gb,5,none⟩ = some (.slice E5 nE5 cE5) := by go_simp
   have hgb3 : gb < ((((((wa.setCell ⟨gb,0,none⟩ (.bool (padd (fieldP a1 b1 c1 fs x) z).x.num.neg)).setCell ⟨gb,1,none⟩ (.slice E1 nE1 cE1)).setCell ⟨gb,2,none⟩ (.slice E2 nE2 cE2)).setCell ⟨gb,3,none⟩ (.bool (padd (fieldP a1 b1 c1 fs x) z).y.num.neg)).setCell ⟨gb,4,none⟩ (.slice E4 nE4 cE4)).setCell ⟨gb,5,none⟩ (.slice E5 nE5 cE5)).heap.size := by simp; omega
   clear t0 t1 t2 t3 t4 t5 t0f t1f t2f t3f t4f t5f hgb2 A5 HBa
   generalize ((((((wa.setCell ⟨gb,0,none⟩ (.bool (padd (fieldP a1 b1 c1 fs x) z).x.num.neg)).setCell ⟨gb,1,none⟩ (.slice E1 nE1 cE1)).setCell ⟨gb,2,none⟩ (.slice E2 nE2 cE2)).setCell ⟨gb,3,none⟩ (.bool (padd (fieldP a1 b1 c1 fs x) z).y.num.neg)).setCell ⟨gb,4,none⟩ (.slice E4 nE4 cE4)).setCell ⟨gb,5,none⟩ (.slice E5 nE5 cE5)) = W at *
   obtain ⟨hc_W,hf_W⟩ := bcell HBs.out
   have hsW := HBs.out.size
   have hW1 : w1.heap.size < W.heap.size := by omega
   have hW0 : w.heap.size < W.heap.size := by omega
   have i0 : W.cell? ⟨w1.heap.size,0,none⟩ = some (.bool out.num.neg) := by go_simp
   have i1 : W.cell? ⟨w1.heap.size,1,none⟩ = some (.slice P1 n1 m1) := by go_simp
   have i2 : W.cell? ⟨w1.heap.size,2,none⟩ = some (.slice P2 n2 m2) := by go_simp
   clear hc_W hf_W
   refine wp_region_last (by simp) (by kernel_rfl) (by kernel_rfl) (by kernel_rfl) (by kernel_rfl) ?_
   dsimp only [List.dropLast,List.getLast,List.length]
   iterate 3
    apply walkM_eq
    case h =>
     intro yq zq wq hC hd
     obtain ⟨hcq,hfq⟩ := bcell hC
     simp at hd
     refine ⟨by go_simp; done, ?_⟩
     go_simp
     first | (go_ints; exact rfl) | (go_ints; rw [if_pos (by omega)]; try exact rfl) | exact rfl | (rw [if_pos (by omega)]; try exact rfl)
   refine walkM_call (MP.agg (inner (padd (fieldP a1 b1 c1 fs x) z) (padd (fieldP a1 b1 c1 fs x) z))) ?_ ?_
   ·intro yq zq wq hC hd
    obtain ⟨hcq,hfq⟩ := bcell hC
    simp at hd
    refine ⟨by go_simp; done, ?_⟩
    apply Exists.intro
    apply Exists.intro
    constructor
    ·go_simp
     exact ⟨rfl,rfl⟩
    ·exact gives_agg (impl_Inner _ _ (padd (fieldP a1 b1 c1 fs x) z) (padd (fieldP a1 b1 c1 fs x) z) _ _ wq (AW.out.below (by (with_reducible repeat first | exact Below.refl _ _ | (refine Below.set ?_ ?_ _; rotate_left; (simp <;> omega)) | refine Below.box_ ?_ _ | refine Below.next ?_ (by assumption)))) (AW.out.below (by (with_reducible repeat first | exact Below.refl _ _ | (refine Below.set ?_ ?_ _; rotate_left; (simp <;> omega)) | refine Below.box_ ?_ _ | refine Below.next ?_ (by assumption)))))
   refine walkM_call (MP.agg (radd out (inner (padd (fieldP a1 b1 c1 fs x) z) (padd (fieldP a1 b1 c1 fs x) z)))) ?_ ?_
   ·intro yq zq wq hC hd
    obtain ⟨hcq,hfq⟩ := bcell hC
    simp at hd
    refine ⟨by go_simp; done, ?_⟩
    apply Exists.intro
    apply Exists.intro
    constructor
    ·go_simp
     exact ⟨rfl,rfl⟩
    ·obtain ⟨_,t, _⟩ := hd
     exact gives_agg (impl_RatAdd _ _ out (inner (padd (fieldP a1 b1 c1 fs x) z) (padd (fieldP a1 b1 c1 fs x) z)) _ _ wq ((hag.out.below HBs.out).below (by (with_reducible repeat first | exact Below.refl _ _ | (refine Below.set ?_ ?_ _; rotate_left; (simp <;> omega)) | refine Below.box_ ?_ _ | refine Below.next ?_ (by assumption)))) t)
   intro yq zq wb hC hd hdis0
   have hdis := hid hdis0
   clear hdis0
   simp at hd
   have q4 := hd.2.2.2.2
   obtain ⟨⟨ha4,hf4⟩,hr4⟩ := q4
   rw [NX.out] at ha4
   obtain ⟨G1,nG1,cG1,v1,G2,nG2,cG2,v2,y4,hz4, _, _⟩ := TRat.agg ha4
   rw [y4] at ha4
   have HBb := hid (show Below W.heap.size W wb by (with_reducible repeat first | exact Below.refl _ _ | (refine Below.set ?_ ?_ _; rotate_left; (simp <;> omega)) | refine Below.box_ ?_ _ | refine Below.next ?_ (by assumption)))
   have A4 := hid ha4; have F4 := hid hf4
   have R4 := hid (show ∀ b ∈ zq 4,w.heap.size + 2 ≤ b ∧ b ≠ w1.heap.size from fun b hb => by have := (hr4 b hb).1; (try simp at this); have := HW1.out; omega)
   have HBr := hid (Below.next HBs.out HBb.out)
   obtain ⟨hc_wb,hf_wb⟩ := bcell HBr.out
   have hsb := HBb.out.size
   have hsb1 : w1.heap.size < wb.heap.size := by omega
   have hsb0 : w.heap.size < wb.heap.size := by omega
   generalize zq 4 = r4 at *
   clear hd hdis ha4 hf4 hr4 hz4 hC
   have hnz : w1.heap.size ≠ w.heap.size := by have := HW1.out; omega
   have hnz' : w.heap.size ≠ w1.heap.size := by have := HW1.out; omega
   go_wp2_with fail
   go_roundg g
   case measure => omega
   case rel =>
    have hkeep : ∀ b,b ≠ w1.heap.size → (((wb.setCell ⟨w1.heap.size,0,none⟩ (.bool (sqTo a1 b1 c1 fs z (k + 1)).num.neg)).setCell ⟨w1.heap.size,1,none⟩ (.slice G1 nG1 cG1)).setCell ⟨w1.heap.size,2,none⟩ (.slice G2 nG2 cG2)).heap[b]? = wb.heap[b]? :=
     fun b h1 => heap_setCells w1.heap.size [.bool (sqTo a1 b1 c1 fs z (k + 1)).num.neg, .slice G1 nG1 cG1, .slice G2 nG2 cG2] wb 0 b h1
    have hw : w.heap.size ≤ w1.heap.size := by have := HW1.out; omega
    refine ⟨k + 1,G1,nG1,cG1,G2,nG2,cG2,r4,hk'.out,by go_num, ?_,⟨F4.out.keep fun b hb => hkeep b (R4.out b hb).2,R4.out⟩,(((Below.next HB.out HBr.out).setCell (p := ⟨w1.heap.size,0,none⟩) hw _).setCell (p := ⟨w1.heap.size,1,none⟩) hw _).setCell (p := ⟨w1.heap.size,2,none⟩) hw _, ?_,(hkeep (w.heap.size + 1) (by have := HW1.out; omega)).trans (heap_keep' hres.out HBr.out),by simp; omega,⟨?_, ?_, ?_, ?_, ?_, ?_⟩,⟨?_, ?_, ?_⟩,⟨?_, ?_, ?_⟩⟩
    ·exact A4.out.keep fun b hb => hkeep b (R4.out b hb).2
    ·exact (HM.out.below HBr.out).keep fun b hb => hkeep b (by have := HMS.out b hb; omega)
    all_goals go_simp
  ·obtain rfl : k = 3 := by omega
   have FP := hid (show rmul (areaP a1 b1 c1) (rmul (mkR 1 3) (sqTo a1 b1 c1 fs z 3)) = sqOver a1 b1 c1 fs z from rfl)
   generalize sqTo a1 b1 c1 fs z 3 = out at *
   obtain ⟨y0,x0⟩ := box_cell hres.out (j := 0) rfl
   obtain ⟨y1,x1⟩ := box_cell hres.out (j := 1) rfl
   obtain ⟨y2,x2⟩ := box_cell hres.out (j := 2) rfl
   have hzr1 : w.heap.size + 1 < wr.heap.size := lt_of_get hres.out
   clear hk hkn hb hfr
   go_wp2_with fail
   refine wp_region_last (by simp) (by kernel_rfl) (by kernel_rfl) (by kernel_rfl) (by kernel_rfl) ?_
   dsimp only [List.dropLast,List.getLast,List.length]
   apply walkM_eq
   case h =>
    intro yq zq wq hC hd
    obtain ⟨hcq,hfq⟩ := bcell hC
    simp at hd
    refine ⟨by go_simp; done, ?_⟩
    go_simp
    first | (go_ints; exact rfl) | (go_ints; rw [if_pos (by omega)]; try exact rfl) | exact rfl | (rw [if_pos (by omega)]; try exact rfl)
   refine walkM_call (MP.agg (areaP a1 b1 c1)) ?_ ?_
   ·intro yq zq wq hC hd
    obtain ⟨hcq,hfq⟩ := bcell hC
    simp at hd
    refine ⟨by go_simp; done, ?_⟩
    apply Exists.intro
    apply Exists.intro
    constructor
    ·go_simp
     exact ⟨rfl,rfl⟩
    ·exact gives_agg (impl_area A c a1 b1 c1 bs wq ((HX.out.below HB.out).below (by (with_reducible repeat first | exact Below.refl _ _ | (refine Below.set ?_ ?_ _; rotate_left; (simp <;> omega)) | refine Below.box_ ?_ _ | refine Below.next ?_ (by assumption)))))
   refine walkM_call (MP.agg (mkR 1 3)) ?_ ?_
   ·intro yq zq wq hC hd
    obtain ⟨hcq,hfq⟩ := bcell hC
    simp at hd
    refine ⟨by go_simp; done, ?_⟩
    apply Exists.intro
    apply Exists.intro
    constructor
    ·go_simp
     exact ⟨rfl,rfl⟩
    ·exact gives_agg (impl_RatOf 1 3 wq (by constructor <;> decide) (by constructor <;> decide) (by decide))
   apply walkM_eq
   case h =>
    intro yq zq wq hC hd
    obtain ⟨hcq,hfq⟩ := bcell hC
    simp at hd
    refine ⟨by go_simp; done, ?_⟩
    go_simp
    first | (go_ints; exact rfl) | (go_ints; rw [if_pos (by omega)]; try exact rfl) | exact rfl | (rw [if_pos (by omega)]; try exact rfl)
   refine walkM_call (MP.agg (rmul (mkR 1 3) out)) ?_ ?_
   ·intro yq zq wq hC hd
    obtain ⟨hcq,hfq⟩ := bcell hC
    simp at hd
    refine ⟨by go_simp; done, ?_⟩
    apply Exists.intro
    apply Exists.intro
    constructor
    ·go_simp
     exact ⟨rfl,rfl⟩
    ·obtain ⟨t1, _⟩ := hd
     exact gives_agg (impl_RatMul _ _ (mkR 1 3) out _ _ wq t1.1 (hag.out.below (by (with_reducible repeat first | exact Below.refl _ _ | (refine Below.set ?_ ?_ _; rotate_left; (simp <;> omega)) | refine Below.box_ ?_ _ | refine Below.next ?_ (by assumption)))))
   refine walkM_call (MP.agg (rmul (areaP a1 b1 c1) (rmul (mkR 1 3) out))) ?_ ?_
   ·intro yq zq wq hC hd
    obtain ⟨hcq,hfq⟩ := bcell hC
    simp at hd
    refine ⟨by go_simp; done, ?_⟩
    apply Exists.intro
    apply Exists.intro
    constructor
    ·go_simp
     exact ⟨rfl,rfl⟩
    ·obtain ⟨t1,t2, _⟩ := hd
     exact gives_agg (impl_RatMul _ _ (areaP a1 b1 c1) (rmul (mkR 1 3) out) _ _ wq t1.1 t2)
   intro yq zq wa hC hd hdis0
   have hdis := hid hdis0
   clear hdis0
   simp at hd
   have q5 := hd.2.2.2.2.2
   obtain ⟨⟨ha9,hf9⟩,hr9⟩ := q5
   rw [FP.out] at ha9
   obtain ⟨E1,nE1,cE1,u1,E2,nE2,cE2,u2,y13,hz13, _, _⟩ := TRat.agg ha9
   rw [y13] at ha9
   have HBa := hid (show Below wr.heap.size wr wa by (with_reducible repeat first | exact Below.refl _ _ | (refine Below.set ?_ ?_ _; rotate_left; (simp <;> omega)) | refine Below.box_ ?_ _ | refine Below.next ?_ (by assumption)))
   have A9 := hid ha9; have F9 := hid hf9
   have R9 := hid (show ∀ b ∈ zq 5,w.heap.size + 2 ≤ b from fun b hb => by have := (hr9 b hb).1; (try simp at this); have := HW1.out; omega)
   obtain ⟨hc_wa,hf_wa⟩ := bcell HBa.out
   have hsz0 : w.heap.size + 1 < wa.heap.size := by have := HBa.out.size; omega
   have hbw := Below.next HB.out HBa.out
   generalize zq 5 = r9 at *
   clear hd hdis ha9 hf9 hr9 hz13 hC
   go_wp2
   refine bodyPost_ret (v := .agg #[.bool (sqOver a1 b1 c1 fs z).num.neg, .slice E1 nE1 cE1, .slice E2 nE2 cE2]) (by simp [results,Tryz.results50,go_sem, *]) rfl ?_
   refine agg_fin (lo := w.heap.size + 2) A9.out F9.out R9.out (by omega) ?_ ?_
   ·(with_reducible repeat first | exact Above.refl _ _ | (refine Above.set ?_ ?_ _; rotate_left; (simp <;> omega)) | refine Above.box ?_ _ | refine Above.below ?_ (by assumption))
   ·(with_reducible repeat first | exact Below.refl _ _ | (refine Below.set ?_ ?_ _; rotate_left; (simp <;> omega)) | refine Below.box_ ?_ _ | refine Below.next ?_ (by assumption))
end Go.Proofs.YtpfipnankjeokaaGreat.X

/- isVector,isFlux,hasFlows,FieldAt,OutflowOf,FieldSquare of the program. -/
namespace Go.Proofs.YtpfipnankjeokaaGreat.X
open Go.RowKit Go.XB Go.XN
structure FluxI (m : TMesh) (xs ys : List Int) (fs : List TRat) : Prop where
 mesh : MeshI m xs ys
 len : fs.length = (edgesL m.triangles).length
 ok : fs.all ratOkB = true
attribute [local go_sem] fillBy opAt deps depOf Region.wanted yielded
attribute [local simp] deps depOf MP.eq MP.agg MP.sl Facts
set_option linter.constructorNameAsVariable false
set_option maxHeartbeats 400000 in
theorem impl_isVector (A : Option Addr) (n c : Nat) (xs : List TRat) (bs : List Nat) (w : World) (hx : Sl w A n c xs bs) (hok : xs.all ratOkB = true) :
  Calls Tryz.prog 100 #[.slice A n c, .int .i64 n] w (Gives w (.bool true)) := by
 have HX := hid hx; have HO := hid hok
 clear hx hok
 go_enter Tryz.func100,Tryz.ntmps100
 go_wp2_with fail
 have C := impl_areRats A n c xs bs w HX.out
 rw [HO.out] at C
 refine C.mono ?_
 clear C
 rintro _ w1 ⟨rfl,hb1⟩
 go_wp2
 go_ret
 exact ⟨rfl,hb1⟩
set_option maxHeartbeats 1000000 in
theorem impl_isFlux (v : Value) (m : TMesh) (b : List Nat) (xs ys : List Int) (B : Option Addr) (nf d : Nat) (fs : List TRat) (ds : List Nat) (w : World) (hx : Agg w v m b) (hf : Sl w B nf d fs ds) (hF : FluxI m xs ys fs) :
  Calls Tryz.prog 47 #[v, .slice B nf d] w (Gives w (.bool true)) := by
 have HX := hid hx; have HF := hid hf; have HFI := hid hF
 obtain ⟨A0,n0,c0,s0,A1,n1,c1,s1,rfl,rfl,hs0,hs1⟩ := TMesh.agg hx
 clear hs0 hs1 hx hf hF
 go_enter Tryz.func47,Tryz.ntmps47
 go_wp2_with fail
 refine (impl_IsMesh _ m _ xs ys _ (HX.out.below (by (with_reducible repeat first | exact Below.refl _ _ | (refine Below.set ?_ ?_ _; rotate_left; (simp <;> omega)) | refine Below.box_ ?_ _ | refine Below.next ?_ (by assumption)))) HFI.out.mesh).mono ?_
 rintro _ w1 ⟨rfl,hb1⟩
 obtain ⟨hc_w1,hf_w1⟩ := bcell hb1
 have hz0_w1 : w.heap.size < w1.heap.size := by have := hb1.size; (try simp at this); omega
 have HB1 := hid (show Below w.heap.size w w1 by (with_reducible repeat first | exact Below.refl _ _ | (refine Below.set ?_ ?_ _; rotate_left; (simp <;> omega)) | refine Below.box_ ?_ _ | refine Below.next ?_ (by assumption)))
 go_wp2_with fail
 refine (impl_edges _ m _ w1 (HX.out.below HB1.out) HFI.out.mesh.t48).mono ?_
 rintro _ w2 ⟨E,nE,cE,eb,rfl,hse,hoe,hb2⟩
 obtain rfl : nf = nE := by rw [← hse.1, ← HF.out.1]; exact HFI.out.len
 have HB2 := hid (Below.next HB1.out hb2)
 clear hse hoe
 go_wp2_with fail
 refine (impl_isVector B nf d fs ds w2 (HF.out.below HB2.out) HFI.out.ok).mono ?_
 rintro _ w3 ⟨rfl,hb3⟩
 go_wp2
 go_ret
 exact ⟨rfl,Below.next HB2.out hb3⟩
set_option maxHeartbeats 1000000 in
theorem impl_hasFlows (v : Value) (m : TMesh) (b : List Nat) (xs ys : List Int) (B : Option Addr) (nf d : Nat) (fs : List TRat) (ds : List Nat) (k : Nat) (w : World) (hx : Agg w v m b) (hf : Sl w B nf d fs ds) (hF : FluxI m xs ys fs) (hk : k < m.triangles.length) :
  Calls Tryz.prog 39 #[v, .slice B nf d, .int .i64 k] w (Gives w (.bool true)) := by
 have HX := hid hx; have HF := hid hf; have HFI := hid hF
 obtain ⟨A0,n0,c0,s0,A1,n1,c1,s1,rfl,rfl,hs0,hs1⟩ := TMesh.agg hx
 have hn48 : n1 ≤ 48 := by rw [← hs1.1]; exact hF.mesh.t48
 have hn48i : (n1 : Int) ≤ 48 := by omega
 have WK := hid (show inB 0 (k : Int) ((n1 : Int) - 1) = true by unfold inB; have : k < n1 := by rw [← hs1.1]; exact hk
                                                                 simp; omega)
 clear hs0 hs1 hx hf hF hk
 go_enter Tryz.func39,Tryz.ntmps39
 go_wp2_with fail
 have C := impl_within k 0 ((n1 : Int) - 1) (w.alloc (.cells #[.slice A0 n0 c0, .slice A1 n1 c1] 26))
 rw [WK.out] at C
 refine C.mono ?_
 clear C
 rintro _ w1 ⟨rfl,hb1⟩
 obtain ⟨hc_w1,hf_w1⟩ := bcell hb1
 have hz0_w1 : w.heap.size < w1.heap.size := by have := hb1.size; (try simp at this); omega
 have HB1 := hid (show Below w.heap.size w w1 by (with_reducible repeat first | exact Below.refl _ _ | (refine Below.set ?_ ?_ _; rotate_left; (simp <;> omega)) | refine Below.box_ ?_ _ | refine Below.next ?_ (by assumption)))
 go_wp2_with fail
 refine (impl_isFlux _ m _ xs ys B nf d fs ds w1 (HX.out.below HB1.out) (HF.out.below HB1.out) HFI.out).mono ?_
 rintro _ w2 ⟨rfl,hb2⟩
 go_wp2
 go_ret
 exact ⟨rfl,Below.next HB1.out hb2⟩

set_option maxHeartbeats 4000000 in
set_option maxRecDepth 10000 in
theorem impl_FieldAt (v : Value) (m : TMesh) (b : List Nat) (xs ys : List Int) (B : Option Addr) (nf d : Nat) (fs : List TRat) (ds : List Nat) (k : Nat) (t : TTri) (vz : Value) (z : TPoint) (bz : List Nat) (w : World) (hx : Agg w v m b) (hf : Sl w B nf d fs ds) (hF : FluxI m xs ys fs) (hk : m.triangles[k]? = some t)
  (hsi : sidesIn (edgesL m.triangles) t) (hz : Agg w vz z bz) (hzo : ptOkB z = true) (hd1 : ratOkB (darea (ptAt m.points t.a) (ptAt m.points t.b) (ptAt m.points t.c)) = true) (hd2 : (darea (ptAt m.points t.a) (ptAt m.points t.b) (ptAt m.points t.c)).num.mag ≠ []) :
  Calls Tryz.prog 10 #[v, .slice B nf d, .int .i64 k,vz] w (GivesAgg w (fieldP (ptAt m.points t.a) (ptAt m.points t.b) (ptAt m.points t.c) (flowsL (edgesL m.triangles) fs k t) z)) := by
 have HX := hid hx; have HF := hid hf; have HFI := hid hF; have HK := hid hk; have HSI := hid hsi; have HZ := hid hz; have HZO := hid hzo; have HD1 := hid hd1; have HD2 := hid hd2
 obtain ⟨A0,n0,c0,s0,A1,n1,c1,s1,rfl,rfl,hs0,hs1⟩ := TMesh.agg hx
 obtain ⟨Z1,nZ1,cZ1,r1,Z2,nZ2,cZ2,r2,Z4,nZ4,cZ4,r4,Z5,nZ5,cZ5,r5,rfl,rfl,hr1,hr2,hr4,hr5⟩ := TPoint.agg hz
 have KL := hid (List.getElem?_eq_some_iff.1 hk).1
 clear hs0 hs1 hx hf hF hk hsi hz hzo hd1 hd2 hr1 hr2 hr4 hr5
 go_enter Tryz.func10,Tryz.ntmps10
 go_wp2_with fail
 refine (impl_hasFlows _ m _ xs ys B nf d fs ds k _ (HX.out.below (by (with_reducible repeat first | exact Below.refl _ _ | (refine Below.set ?_ ?_ _; rotate_left; (simp <;> omega)) | refine Below.box_ ?_ _ | refine Below.next ?_ (by assumption)))) (HF.out.below (by (with_reducible repeat first | exact Below.refl _ _ | (refine Below.set ?_ ?_ _; rotate_left; (simp <;> omega)) | refine Below.box_ ?_ _ | refine Below.next ?_ (by assumption)))) HFI.out KL.out).mono ?_
 rintro _ w1 ⟨rfl,hb1⟩
 obtain ⟨hc_w1,hf_w1⟩ := bcell hb1
 have hz0_w1 : w.heap.size < w1.heap.size := by have := hb1.size; (try simp at this); omega
 have hz1_w1 : w.heap.size + 1 < w1.heap.size := by have := hb1.size; (try simp at this); omega
 have hz2_w1 : w.heap.size + 1 + 1 < w1.heap.size := by have := hb1.size; (try simp at this); omega
 have HB1 := hid (show Below w.heap.size w w1 by (with_reducible repeat first | exact Below.refl _ _ | (refine Below.set ?_ ?_ _; rotate_left; (simp <;> omega)) | refine Below.box_ ?_ _ | refine Below.next ?_ (by assumption)))
 go_wp2_with fail
 have C := impl_IsValidPoint _ z _ w1 (HZ.out.below HB1.out)
 rw [HZO.out] at C
 refine C.mono ?_
 clear C
 rintro _ w2 ⟨rfl,hb2⟩
 obtain ⟨hc_w2,hf_w2⟩ := bcell hb2
 have hz0_w2 : w.heap.size < w2.heap.size := by have := hb2.size; (try simp at this); omega
 have hz1_w2 : w.heap.size + 1 < w2.heap.size := by have := hb2.size; (try simp at this); omega
 have hz2_w2 : w.heap.size + 1 + 1 < w2.heap.size := by have := hb2.size; (try simp at this); omega
 have HB2 := hid (Below.next HB1.out hb2)
 have HXL := hid (show w.heap.size + 3 ≤ w2.heap.size by have := hb2.size; omega)
 go_wp2_with fail
 refine wp_region_last (by simp) (by kernel_rfl) (by kernel_rfl) (by kernel_rfl) (by kernel_rfl) ?_
 dsimp only [List.dropLast,List.getLast,List.length]
 iterate 2
  apply walkM_eq
  case h =>
   intro yq zq wq hC hd
   obtain ⟨hcq,hfq⟩ := bcell hC
   simp at hd
   refine ⟨by go_simp; done, ?_⟩
   go_simp
   first | (go_ints; exact rfl) | (go_ints; rw [if_pos (by omega)]; try exact rfl) | exact rfl | (rw [if_pos (by omega)]; try exact rfl)
 refine walkM_call (MP.sl (triPts m.points t)) ?_ ?_
 ·intro yq zq wq hC hd
  obtain ⟨hcq,hfq⟩ := bcell hC
  simp at hd
  refine ⟨by go_simp; done, ?_⟩
  apply Exists.intro
  apply Exists.intro
  constructor
  ·go_simp
   exact ⟨rfl,rfl⟩
  ·exact gives_sl (impl_Corners _ m _ k t wq ((HX.out.below HB2.out).below (by (with_reducible repeat first | exact Below.refl _ _ | (refine Below.set ?_ ?_ _; rotate_left; (simp <;> omega)) | refine Below.box_ ?_ _ | refine Below.next ?_ (by assumption)))) HK.out (HFI.out.mesh.tri t (List.mem_of_getElem? HK.out)).1 HFI.out.mesh.ok HFI.out.mesh.n40 HFI.out.mesh.t48)
 iterate 3
  apply walkM_eq
  case h =>
   intro yq zq wq hC hd
   obtain ⟨hcq,hfq⟩ := bcell hC
   simp at hd
   refine ⟨by go_simp; done, ?_⟩
   go_simp
   first | (go_ints; exact rfl) | (go_ints; rw [if_pos (by omega)]; try exact rfl) | exact rfl | (rw [if_pos (by omega)]; try exact rfl)
 refine walkM_call (MP.sl (flowsL (edgesL m.triangles) fs k t)) ?_ ?_
 ·intro yq zq wq hC hd
  obtain ⟨hcq,hfq⟩ := bcell hC
  simp at hd
  refine ⟨by go_simp; done, ?_⟩
  apply Exists.intro
  apply Exists.intro
  constructor
  ·go_simp
   exact ⟨rfl,rfl⟩
  ·exact gives_sl (impl_edgeFlows _ m _ B nf d fs ds k t wq ((HX.out.below HB2.out).below (by (with_reducible repeat first | exact Below.refl _ _ | (refine Below.set ?_ ?_ _; rotate_left; (simp <;> omega)) | refine Below.box_ ?_ _ | refine Below.next ?_ (by assumption)))) HFI.out.mesh.t48 ((HF.out.below HB2.out).below (by (with_reducible repeat first | exact Below.refl _ _ | (refine Below.set ?_ ?_ _; rotate_left; (simp <;> omega)) | refine Below.box_ ?_ _ | refine Below.next ?_ (by assumption)))) HFI.out.len HK.out HSI.out HFI.out.ok)
 apply walkM_eq
 case h =>
  intro yq zq wq hC hd
  obtain ⟨hcq,hfq⟩ := bcell hC
  simp at hd
  refine ⟨by go_simp; done, ?_⟩
  go_simp
  first | (go_ints; exact rfl) | (go_ints; rw [if_pos (by omega)]; try exact rfl) | exact rfl | (rw [if_pos (by omega)]; try exact rfl)
 refine walkM_call (MP.agg (fieldP (ptAt m.points t.a) (ptAt m.points t.b) (ptAt m.points t.c) (flowsL (edgesL m.triangles) fs k t) z)) ?_ ?_
 ·intro yq zq wq hC hd
  obtain ⟨hcq,hfq⟩ := bcell hC
  simp at hd
  obtain ⟨⟨⟨C,nC,cC,eC,hC1⟩, _⟩,⟨⟨D,nD,cD,eD,hD1⟩, _⟩, _⟩ := hd
  obtain rfl : 3 = nC := hC1.1
  obtain rfl : 3 = nD := hD1.1
  refine ⟨by go_simp; done, ?_⟩
  apply Exists.intro
  apply Exists.intro
  constructor
  ·go_simp
   exact ⟨rfl,rfl⟩
  ·exact gives_agg (impl_field C cC _ _ _ _ D cD _ _ _ z _ wq hC1 hD1 ((HZ.out.below HB2.out).below (by (with_reducible repeat first | exact Below.refl _ _ | (refine Below.set ?_ ?_ _; rotate_left; (simp <;> omega)) | refine Below.box_ ?_ _ | refine Below.next ?_ (by assumption)))) HD1.out HD2.out)
 intro yq zq wa hC hd hdis0
 have hdis := hid hdis0
 clear hdis0
 simp at hd
 have q8 := hd.2.2.2.2.2.2.2.2
 obtain ⟨⟨ha,hfr⟩,hr⟩ := q8
 generalize fieldP (ptAt m.points t.a) (ptAt m.points t.b) (ptAt m.points t.c) (flowsL (edgesL m.triangles) fs k t) z = out at *
 obtain ⟨E1,nE1,cE1,u1,E2,nE2,cE2,u2,E4,nE4,cE4,u4,E5,nE5,cE5,u5,y8,z8, _, _, _, _⟩ := TPoint.agg ha
 rw [y8] at ha
 have HA := hid ha; have HFR := hid hfr
 have HR := hid (show ∀ b ∈ zq 8,w.heap.size + 3 ≤ b from fun b hb => by have := (hr b hb).1; have := HXL.out; omega)
 have hbw := Below.next HB2.out hC
 obtain ⟨hc_wa,hf_wa⟩ := bcell hC
 have hz0_wa : w.heap.size < wa.heap.size := by have := hC.size; (try simp at this); omega
 have hz1_wa : w.heap.size + 1 < wa.heap.size := by have := hC.size; (try simp at this); omega
 have hz2_wa : w.heap.size + 1 + 1 < wa.heap.size := by have := hC.size; (try simp at this); omega
 generalize zq 8 = r8 at *
 clear hd hdis ha hfr hr z8
 go_wp2
 refine bodyPost_ret (v := .agg #[.bool out.x.num.neg, .slice E1 nE1 cE1, .slice E2 nE2 cE2, .bool out.y.num.neg, .slice E4 nE4 cE4, .slice E5 nE5 cE5]) (by simp [results,Tryz.results10,go_sem, *]) rfl ?_
 refine agg_fin (lo := w.heap.size + 3) HA.out HFR.out HR.out (by omega) ?_ ?_
 ·(with_reducible repeat first | exact Above.refl _ _ | (refine Above.set ?_ ?_ _; rotate_left; (simp <;> omega)) | refine Above.box ?_ _ | refine Above.below ?_ (by assumption))
 ·(with_reducible repeat first | exact Below.refl _ _ | (refine Below.set ?_ ?_ _; rotate_left; (simp <;> omega)) | refine Below.box_ ?_ _ | refine Below.next ?_ (by assumption))

set_option maxHeartbeats 4000000 in
set_option maxRecDepth 10000 in
theorem impl_FieldSquare (v : Value) (m : TMesh) (b : List Nat) (xs ys : List Int) (B : Option Addr) (nf d : Nat) (fs : List TRat) (ds : List Nat) (k : Nat) (t : TTri) (w : World) (hx : Agg w v m b) (hf : Sl w B nf d fs ds) (hF : FluxI m xs ys fs) (hk : m.triangles[k]? = some t)
  (hsi : sidesIn (edgesL m.triangles) t) (hd1 : ratOkB (darea (ptAt m.points t.a) (ptAt m.points t.b) (ptAt m.points t.c)) = true) (hd2 : (darea (ptAt m.points t.a) (ptAt m.points t.b) (ptAt m.points t.c)).num.mag ≠ []) :
  Calls Tryz.prog 15 #[v, .slice B nf d, .int .i64 k] w (GivesAgg w (sqOver (ptAt m.points t.a) (ptAt m.points t.b) (ptAt m.points t.c) (flowsL (edgesL m.triangles) fs k t) (ptI 0 0))) := by
 have HX := hid hx; have HF := hid hf; have HFI := hid hF; have HK := hid hk; have HSI := hid hsi; have HD1 := hid hd1; have HD2 := hid hd2
 obtain ⟨A0,n0,c0,s0,A1,n1,c1,s1,rfl,rfl,hs0,hs1⟩ := TMesh.agg hx
 have KL := hid (List.getElem?_eq_some_iff.1 hk).1
 clear hs0 hs1 hx hf hF hk hsi hd1 hd2
 go_enter Tryz.func15,Tryz.ntmps15
 go_wp2_with fail
 refine (impl_hasFlows _ m _ xs ys B nf d fs ds k _ (HX.out.below (by (with_reducible repeat first | exact Below.refl _ _ | (refine Below.set ?_ ?_ _; rotate_left; (simp <;> omega)) | refine Below.box_ ?_ _ | refine Below.next ?_ (by assumption)))) (HF.out.below (by (with_reducible repeat first | exact Below.refl _ _ | (refine Below.set ?_ ?_ _; rotate_left; (simp <;> omega)) | refine Below.box_ ?_ _ | refine Below.next ?_ (by assumption)))) HFI.out KL.out).mono ?_
 rintro _ w2 ⟨rfl,hb2⟩
 obtain ⟨hc_w2,hf_w2⟩ := bcell hb2
 have hz0_w2 : w.heap.size < w2.heap.size := by have := hb2.size; (try simp at this); omega
 have hz1_w2 : w.heap.size + 1 < w2.heap.size := by have := hb2.size; (try simp at this); omega
 have HB2 := hid (show Below w.heap.size w w2 by (with_reducible repeat first | exact Below.refl _ _ | (refine Below.set ?_ ?_ _; rotate_left; (simp <;> omega)) | refine Below.box_ ?_ _ | refine Below.next ?_ (by assumption)))
 have HXL := hid (show w.heap.size + 2 ≤ w2.heap.size by have := hb2.size; simp at this; omega)
 go_wp2_with fail
 refine wp_region_last (by simp) (by kernel_rfl) (by kernel_rfl) (by kernel_rfl) (by kernel_rfl) ?_
 dsimp only [List.dropLast,List.getLast,List.length]
 iterate 2
  apply walkM_eq
  case h =>
   intro yq zq wq hC hd
   obtain ⟨hcq,hfq⟩ := bcell hC
   simp at hd
   refine ⟨by go_simp; done, ?_⟩
   go_simp
   first | (go_ints; exact rfl) | (go_ints; rw [if_pos (by omega)]; try exact rfl) | exact rfl | (rw [if_pos (by omega)]; try exact rfl)
 refine walkM_call (MP.sl (triPts m.points t)) ?_ ?_
 ·intro yq zq wq hC hd
  obtain ⟨hcq,hfq⟩ := bcell hC
  simp at hd
  refine ⟨by go_simp; done, ?_⟩
  apply Exists.intro
  apply Exists.intro
  constructor
  ·go_simp
   exact ⟨rfl,rfl⟩
  ·exact gives_sl (impl_Corners _ m _ k t wq ((HX.out.below HB2.out).below (by (with_reducible repeat first | exact Below.refl _ _ | (refine Below.set ?_ ?_ _; rotate_left; (simp <;> omega)) | refine Below.box_ ?_ _ | refine Below.next ?_ (by assumption)))) HK.out (HFI.out.mesh.tri t (List.mem_of_getElem? HK.out)).1 HFI.out.mesh.ok HFI.out.mesh.n40 HFI.out.mesh.t48)
 iterate 3
  apply walkM_eq
  case h =>
   intro yq zq wq hC hd
   obtain ⟨hcq,hfq⟩ := bcell hC
   simp at hd
   refine ⟨by go_simp; done, ?_⟩
   go_simp
   first | (go_ints; exact rfl) | (go_ints; rw [if_pos (by omega)]; try exact rfl) | exact rfl | (rw [if_pos (by omega)]; try exact rfl)
 refine walkM_call (MP.sl (flowsL (edgesL m.triangles) fs k t)) ?_ ?_
 ·intro yq zq wq hC hd
  obtain ⟨hcq,hfq⟩ := bcell hC
  simp at hd
  refine ⟨by go_simp; done, ?_⟩
  apply Exists.intro
  apply Exists.intro
  constructor
  ·go_simp
   exact ⟨rfl,rfl⟩
  ·exact gives_sl (impl_edgeFlows _ m _ B nf d fs ds k t wq ((HX.out.below HB2.out).below (by (with_reducible repeat first | exact Below.refl _ _ | (refine Below.set ?_ ?_ _; rotate_left; (simp <;> omega)) | refine Below.box_ ?_ _ | refine Below.next ?_ (by assumption)))) HFI.out.mesh.t48 ((HF.out.below HB2.out).below (by (with_reducible repeat first | exact Below.refl _ _ | (refine Below.set ?_ ?_ _; rotate_left; (simp <;> omega)) | refine Below.box_ ?_ _ | refine Below.next ?_ (by assumption)))) HFI.out.len HK.out HSI.out HFI.out.ok)
 refine walkM_call (MP.agg (ptI 0 0)) ?_ ?_
 ·intro yq zq wq hC hd
  obtain ⟨hcq,hfq⟩ := bcell hC
  simp at hd
  refine ⟨by go_simp; done, ?_⟩
  apply Exists.intro
  apply Exists.intro
  constructor
  ·go_simp
   exact ⟨rfl,rfl⟩
  ·exact gives_agg (impl_PointAt 0 0 wq (by constructor <;> decide) (by constructor <;> decide))
 refine walkM_call (MP.agg (sqOver (ptAt m.points t.a) (ptAt m.points t.b) (ptAt m.points t.c) (flowsL (edgesL m.triangles) fs k t) (ptI 0 0))) ?_ ?_
 ·intro yq zq wq hC hd
  obtain ⟨hcq,hfq⟩ := bcell hC
  simp at hd
  obtain ⟨⟨⟨C,nC,cC,eC,hC1⟩, _⟩,⟨⟨D,nD,cD,eD,hD1⟩, _⟩,hp, _⟩ := hd
  obtain rfl : 3 = nC := hC1.1
  obtain rfl : 3 = nD := hD1.1
  refine ⟨by go_simp; done, ?_⟩
  apply Exists.intro
  apply Exists.intro
  constructor
  ·go_simp
   exact ⟨rfl,rfl⟩
  ·exact gives_agg (impl_squareOver C cC _ _ _ _ D cD _ _ _ (ptI 0 0) _ wq hC1 hD1 hp HD1.out HD2.out)
 intro yq zq wa hC hd hdis0
 have hdis := hid hdis0
 clear hdis0
 simp at hd
 have q8 := hd.2.2.2.2.2.2.2.2
 obtain ⟨⟨ha,hfr⟩,hr⟩ := q8
 generalize sqOver (ptAt m.points t.a) (ptAt m.points t.b) (ptAt m.points t.c) (flowsL (edgesL m.triangles) fs k t) (ptI 0 0) = out at *
 obtain ⟨E1,nE1,cE1,u1,E2,nE2,cE2,u2,y8,z8, _, _⟩ := TRat.agg ha
 rw [y8] at ha
 have HA := hid ha; have HFR := hid hfr
 have HR := hid (show ∀ b ∈ zq 8,w.heap.size + 2 ≤ b from fun b hb => by have := (hr b hb).1; have := HXL.out; omega)
 have hbw := Below.next HB2.out hC
 obtain ⟨hc_wa,hf_wa⟩ := bcell hC
 have hz0_wa : w.heap.size < wa.heap.size := by have := hC.size; (try simp at this); omega
 have hz1_wa : w.heap.size + 1 < wa.heap.size := by have := hC.size; (try simp at this); omega
 generalize zq 8 = r8 at *
 clear hd hdis ha hfr hr z8
 go_wp2
 refine bodyPost_ret (v := .agg #[.bool out.num.neg, .slice E1 nE1 cE1, .slice E2 nE2 cE2]) (by simp [results,Tryz.results15,go_sem, *]) rfl ?_
 refine agg_fin (lo := w.heap.size + 2) HA.out HFR.out HR.out (by omega) ?_ ?_
 ·(with_reducible repeat first | exact Above.refl _ _ | (refine Above.set ?_ ?_ _; rotate_left; (simp <;> omega)) | refine Above.box ?_ _ | refine Above.below ?_ (by assumption))
 ·(with_reducible repeat first | exact Below.refl _ _ | (refine Below.set ?_ ?_ _; rotate_left; (simp <;> omega)) | refine Below.box_ ?_ _ | refine Below.next ?_ (by assumption))

set_option maxHeartbeats 4000000 in
set_option maxRecDepth 10000 in
theorem impl_OutflowOf (v : Value) (m : TMesh) (b : List Nat) (xs ys : List Int) (B : Option Addr) (nf d : Nat) (fs : List TRat) (ds : List Nat) (k : Nat) (w : World) (hx : Agg w v m b) (hf : Sl w B nf d fs ds) (hF : FluxI m xs ys fs) (hk : k < m.triangles.length) :
  Calls Tryz.prog 13 #[v, .slice B nf d, .int .i64 k] w (GivesAgg w (outP (edgesL m.triangles) fs k)) := by
 have HX := hid hx; have HF := hid hf; have HFI := hid hF
 obtain ⟨A0,n0,c0,s0,A1,n1,c1,s1,rfl,rfl,hs0,hs1⟩ := TMesh.agg hx
 have hn48 : n1 ≤ 48 := by rw [← hs1.1]; exact hF.mesh.t48
 have hn48i : (n1 : Int) ≤ 48 := by omega
 have WK := hid (show inB 0 (k : Int) ((n1 : Int) - 1) = true by unfold inB; have : k < n1 := by rw [← hs1.1]; exact hk
                                                                 simp; omega)
 clear hs0 hs1 hx hf hF hk
 go_enter Tryz.func13,Tryz.ntmps13
 go_wp2_with fail
 have C := impl_within k 0 ((n1 : Int) - 1) ((w.alloc (.cells #[.slice A0 n0 c0, .slice A1 n1 c1] 26)).alloc (.cells #[.bool false, .slice none 0 0, .slice none 0 0] 32))
 rw [WK.out] at C
 refine C.mono ?_
 clear C
 rintro _ w1 ⟨rfl,hb1⟩
 obtain ⟨hc_w1,hf_w1⟩ := bcell hb1
 have hz0_w1 : w.heap.size < w1.heap.size := by have := hb1.size; (try simp at this); omega
 have hz1_w1 : w.heap.size + 1 < w1.heap.size := by have := hb1.size; (try simp at this); omega
 have HB1 := hid (show Below w.heap.size w w1 by (with_reducible repeat first | exact Below.refl _ _ | (refine Below.set ?_ ?_ _; rotate_left; (simp <;> omega)) | refine Below.box_ ?_ _ | refine Below.next ?_ (by assumption)))
 go_wp2_with fail
 refine (impl_isFlux _ m _ xs ys B nf d fs ds w1 (HX.out.below HB1.out) (HF.out.below HB1.out) HFI.out).mono ?_
 rintro _ w2 ⟨rfl,hb2⟩
 obtain ⟨hc_w2,hf_w2⟩ := bcell hb2
 have hz0_w2 : w.heap.size < w2.heap.size := by have := hb2.size; (try simp at this); omega
 have hz1_w2 : w.heap.size + 1 < w2.heap.size := by have := hb2.size; (try simp at this); omega
 have HB2 := hid (Below.next HB1.out hb2)
 have HXL := hid (show w.heap.size + 2 ≤ w2.heap.size by have := hb2.size; omega)
 go_wp2_with fail
 refine (impl_outflow _ m _ B nf d fs ds k w2 (HX.out.below HB2.out) HFI.out.mesh.t48 (HF.out.below HB2.out) HFI.out.len).mono ?_
 rintro _ wa ⟨va,sa,rfl,ha,ho,hba⟩
 generalize outP (edgesL m.triangles) fs k = out at *
 obtain ⟨E1,nE1,cE1,u1,E2,nE2,cE2,u2,rfl,z8, _, _⟩ := TRat.agg ha
 have HA := hid ha; have HFR := hid ho.free
 have HR := hid (show ∀ b ∈ sa,w.heap.size + 2 ≤ b from fun b hb => by have := (ho.2 b hb).1; have := HXL.out; omega)
 have hbw := Below.next HB2.out hba
 obtain ⟨hc_wa,hf_wa⟩ := bcell hba
 have hz0_wa : w.heap.size < wa.heap.size := by have := hba.size; (try simp at this); omega
 have hz1_wa : w.heap.size + 1 < wa.heap.size := by have := hba.size; (try simp at this); omega
 clear ha ho z8
 go_wp2
 refine bodyPost_ret (v := .agg #[.bool out.num.neg, .slice E1 nE1 cE1, .slice E2 nE2 cE2]) (by simp [results,Tryz.results13,go_sem, *]) rfl ?_
 refine agg_fin (lo := w.heap.size + 2) HA.out HFR.out HR.out (by omega) ?_ ?_
 ·(with_reducible repeat first | exact Above.refl _ _ | (refine Above.set ?_ ?_ _; rotate_left; (simp <;> omega)) | refine Above.box ?_ _ | refine Above.below ?_ (by assumption))
 ·(with_reducible repeat first | exact Below.refl _ _ | (refine Below.set ?_ ?_ _; rotate_left; (simp <;> omega)) | refine Below.box_ ?_ _ | refine Below.next ?_ (by assumption))
end Go.Proofs.YtpfipnankjeokaaGreat.X
