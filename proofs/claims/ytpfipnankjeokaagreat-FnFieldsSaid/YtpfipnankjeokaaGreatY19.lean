/- Part of a claim's proof: texts of this repository's wip,joined by prune.py,without the theorems that the claim does not reach. -/
import Derived.Test.YtpfipnankjeokaaGreatY17
import Derived.Test.YtpfipnankjeokaaGreatY14
import Derived.Test.YtpfipnankjeokaaGreatY13
import Derived.Test.YtpfipnankjeokaaGreatY18
/- Corners of the program. Written by gen_cor.py. -/
namespace Go.Proofs.YtpfipnankjeokaaGreat.X
open Go.RowKit Go.XB Go.XN
def pt0 : TPoint := ⟨zeroR,zeroR⟩
def ptAt (ps : List TPoint) (i : Int) : TPoint := ps.getD i.toNat pt0
def triPts (ps : List TPoint) (t : TTri) : List TPoint := [ptAt ps t.a,ptAt ps t.b,ptAt ps t.c]
section
variable {α : Type} [Dat α]
theorem push_ownG {w wr wa w8 : World} {gB g' k : Nat} {cells cs : List Value} {fss : List (List Nat)} {ps : List α} {pt : α} {z : List Nat} (hfil : Filled wr cells ps fss) (hlen : ps.length = k) (hcl : cells.length = k * Dat.sz α) (how : Own w wr fss.flatten) (hnot : gB ∉ fss.flatten) (hb : Below w.heap.size w wr) (hgB : gB < wr.heap.size) (hbase : w.heap.size ≤ gB)
  (hC : Below wr.heap.size wr wa) (ha : Dat.at_ wa cs pt z) (hf : Free wa z) (hr : ∀ b ∈ z,wr.heap.size ≤ b) (hg : wa.grownBy w8 (some gB)) (hor : g' = gB ∨ g' = wa.heap.size) :
  Filled w8 (cells ++ cs) (ps ++ [pt]) (fss ++ [z]) ∧ Own w w8 (fss ++ [z]).flatten ∧ g' ∉ (fss ++ [z]).flatten ∧ Below w.heap.size w w8 ∧ (ps ++ [pt]).length = k + 1 := by
 have hsz := hC.size
 have hzl : ∀ b ∈ z,b < wa.heap.size := Dat.lt ha
 have hfl : ∀ b ∈ fss.flatten,b < wr.heap.size := how.lt
 have k1 : ∀ b ∈ fss.flatten,w8.heap[b]? = wr.heap[b]? := fun b hb1 => (hg.block b (by have := hfl b hb1; omega) (by intro e; injection e with e; exact hnot (e ▸ hb1))).trans (hC.block b (hfl b hb1))
 have k2 : ∀ b ∈ z,w8.heap[b]? = wa.heap[b]? := fun b hb1 => hg.block b (hzl b hb1) (by intro e; injection e with e; have := hr b hb1; omega)
 have hz : (fss ++ [z]).flatten = fss.flatten ++ z := by simp
 refine ⟨Filled.push (hfil.keep k1) (by rw [hcl,hlen]) (Dat.keep ha k2), ?_, ?_, ?_,by simp [hlen]⟩
 ·rw [hz]
  refine Own.append ⟨how.1,fun b hb1 => ⟨(how.2 b hb1).1,by obtain ⟨cs,t,e⟩ := (how.2 b hb1).2; exact ⟨cs,t,(k1 b hb1).trans e⟩⟩⟩ ⟨hf.1,fun b hb1 => ⟨by have := hr b hb1; have := hb.size; omega,by obtain ⟨cs,t,e⟩ := hf.2 b hb1; exact ⟨cs,t,(k2 b hb1).trans e⟩⟩⟩ ?_
  exact apart_of_lt hfl hr
 ·rw [hz]
  intro h
  rcases List.mem_append.1 h with h | h
  ·rcases hor with h2 | h2
   ·exact hnot (h2 ▸ h)
   ·have := hfl _ h; omega
  ·rcases hor with h2 | h2
   ·have := hr _ h; omega
   ·have := hzl _ h; omega
 ·exact (Below.next hb hC).grown hg (by have := hb.size; omega) (fun k2 hk2 => by injection hk2 with h; subst h; exact hbase)
theorem push_doneG {w wr : World} {base gB k cap : Nat} {e : TypeId} {cells : List Value} {fss : List (List Nat)} {ps : List α} (hown : wr.ownsRow base e (Dat.sz α) (.slice (some ⟨gB,0,none⟩) k cap) k cells) (hbase : w.heap.size ≤ base) (hfil : Filled wr cells ps fss) (hlen : ps.length = k) (how : Own w wr fss.flatten) (hnot : gB ∉ fss.flatten) (hb : Below w.heap.size w wr) : GivesSl w ps (.returned (.slice (some ⟨gB,0,none⟩) k cap)) wr := by
 obtain ⟨A',c',bs',hv,hs,ho⟩ := hfil.sl (α := α) hown hlen
 refine ⟨A',k,c',bs',by rw [← hv],hs,own_of_row (n := k) (fss := fss) ?_ how,hb⟩
 rcases ho with ho | ⟨g,h1,h2,h3,h4⟩
 ·exact .inl ho
 ·refine .inr ⟨g,h2,Nat.le_trans hbase h3,h4,fun hg => ?_⟩
  have e : gB = g := by simpa [Value.ownBlock] using h1
  exact hnot (e ▸ hg)
end
attribute [local go_sem] fillBy opAt deps depOf Region.wanted yielded
attribute [local simp] deps depOf MP.eq MP.agg MP.sl Facts
attribute [local go_sem] ix0 ix1 ix2
set_option linter.constructorNameAsVariable false
theorem infoPt' : (Tryz.prog.info? 34).map (fun i => (i.zero,i.size,i.bytes)) = some (some (.agg #[.bool false, .slice none 0 0, .slice none 0 0, .bool false, .slice none 0 0, .slice none 0 0]),6,112) := by kernel_rfl
theorem ptAt_get {ps : List TPoint} {i : Nat} {x : TPoint} (h : ps[i]? = some x) {j : Int} (hj : j.toNat = i) : ptAt ps j = x := by
 unfold ptAt; rw [hj]; simp [List.getD,h]

set_option maxHeartbeats 8000000 in
set_option maxRecDepth 10000 in
theorem impl_Corners (v : Value) (m : TMesh) (b : List Nat) (k : Nat) (t : TTri) (w : World) (hx : Agg w v m b) (hk : m.triangles[k]? = some t) (it : triIn m.points.length t) (hall : m.points.all ptOkB = true) (h40 : m.points.length ≤ 40) (h48 : m.triangles.length ≤ 48) :
  Calls Tryz.prog 8 #[v, .int .i64 k] w (GivesSl w (triPts m.points t)) := by
 obtain ⟨A0,n0,c0,s0,A1,n1,c1,s1,rfl,rfl,hs0,hs1⟩ := TMesh.agg hx
 have HS0 := hid hs0
 obtain ⟨i0,hi,hz0,hz1,hz2⟩ := info_parts infoPt'
 have hkn : k < n1 := by rw [← hs1.1]; exact (List.getElem?_eq_some_iff.1 hk).1
 have hn40 : n0 ≤ 40 := by rw [← hs0.1]; exact h40
 have hn48 : n1 ≤ 48 := by rw [← hs1.1]; exact h48
 have IT := hid (show triIn n0 t by rw [← hs0.1]; exact it)
 have ALL := hid hall
 have HL0 := hid hs0.1
 obtain ⟨be,of,t',rfl,hbl,hx1,e0,e1,e2,e3,e4,hag⟩ := TTri.elemA hs1 hkn
 obtain rfl : t = t' := by rw [hk] at hx1; exact Option.some.inj hx1
 have HAG := hid hag
 have hki : (k : Int) < n1 := by omega
 have hk48 : (n1 : Int) ≤ 48 := by omega
 have hn40i : (n0 : Int) ≤ 40 := by omega
 have WK := hid (show inB 0 (k : Int) ((n1 : Int) - 1) = true by unfold inB; simp; omega)
 have IN0 := hid (show inB 0 t.a ((n0 : Int) - 1) = true by unfold inB; have := IT.out.1; simp; omega)
 have IN1 := hid (show inB 0 t.b ((n0 : Int) - 1) = true by unfold inB; have := IT.out.2.1; simp; omega)
 have IN2 := hid (show inB 0 t.c ((n0 : Int) - 1) = true by unfold inB; have := IT.out.2.2; simp; omega)
 clear hx hk it hall h40 h48 hs0 hs1 hag hx1
 go_enter Tryz.func8,Tryz.ntmps8
 go_wp2_with fail
 have C := impl_within k 0 ((n1 : Int) - 1) (w.alloc (.cells #[.slice A0 n0 c0, .slice (some ⟨be,of,none⟩) n1 c1] 26))
 rw [WK.out] at C
 refine C.mono ?_
 clear C
 rintro _ w1 ⟨rfl,hb1⟩
 obtain ⟨hc_w1,hf_w1⟩ := bcell hb1
 have hz0_w1 : w.heap.size < w1.heap.size := by have := hb1.size; (try simp at this); omega
 have HB1 := hid (show Below w.heap.size w w1 by (with_reducible repeat first | exact Below.refl _ _ | (refine Below.set ?_ ?_ _; rotate_left; (simp <;> omega)) | refine Below.box_ ?_ _ | refine Below.next ?_ (by assumption)))
 have hbl1 : be < w1.heap.size := by have := HB1.out.size; omega
 have W1 := hid (show w.heap.size + 1 ≤ w1.heap.size by omega)
 go_wp2_with fail
 have RB := hid (World.ownsRow_made (base := w.heap.size + 1) (e := 34) (size := 6) w1 #[] 0 W1.out (Nat.zero_le _) rfl)
 refine (impl_corners _ t _ (w1.alloc (.cells #[] 34)) (HAG.out.below (HB1.out.alloc HB1.out.size _))).mono ?_
 rintro _ w2 ⟨rfl,hb2⟩
 obtain ⟨hc_w2,hf_w2⟩ := bcell hb2
 have HB12 := hid (show Below w1.heap.size w1 w2 from Below.trans (Below.box _) (hb2.mono (by simp)))
 have HB2 := hid (Below.next HB1.out HB12.out)
 have hz2' : w.heap.size < w2.heap.size := by have := HB12.out.size; omega
 have R2 := hid (ownsRow_below RB.out hb2)
 go_wp2_with fail
 go_loopg [5,22] 3 (fun g s5 s wr => ∃ (i gB cap : Nat) (cells : List Value) (fss : List (List Nat)),i + g = 3 ∧ s = .int .i64 i ∧ s5 = .slice (some ⟨gB,0,none⟩) i cap ∧ Hid (wr.ownsRow (w.heap.size + 1) 34 6 (.slice (some ⟨gB,0,none⟩) i cap) i cells) ∧ Hid (Filled wr cells ((triPts m.points t).take i) fss) ∧ Hid (((triPts m.points t).take i).length = i) ∧ Hid (Own w wr fss.flatten) ∧ Hid (gB ∉ fss.flatten) ∧ Below w.heap.size w wr ∧ (wr.cell? ⟨w.heap.size,0,none⟩ = some (.slice A0 n0 c0) ∧ w.heap.size < wr.heap.size))
 case atStart => exact ⟨0,w1.heap.size,0, [], [],rfl,rfl,rfl,R2.out,Filled.nil _ _,rfl,Own.nil _ _,(show w1.heap.size ∉ ([] : List (List Nat)).flatten by simp),HB2.out,⟨by go_simp,hz2'⟩⟩
 case round =>
  clear hc_w1 hf_w1 hc_w2 hf_w2
  obtain ⟨i,gB,cap,cells,fss,hi3,rfl,rfl,hown,hfil,hlen,how,hnot,hb,⟨q0,hzr⟩⟩ := hrel
  have HB := hid hb
  obtain rfl | rfl | rfl | rfl : i = 0 ∨ i = 1 ∨ i = 2 ∨ i = 3 := by omega
  ·obtain rfl : gk = 2 + 1 := by omega
   obtain ⟨be2,of2,x,D1,nD1,cD1,d1,D2,nD2,cD2,d2,D4,nD4,cD4,d4,D5,nD5,cD5,d5,rfl,hbl2,hx2,p0,p1,p2,p3,p4,p5,hag2⟩ := TPoint.elemA (HS0.out.below hb) (show t.a.toNat < n0 by have := IT.out.1; omega)
   have HAG2 := hid hag2
   have PX := hid (ptAt_get hx2 rfl)
   have OK := hid (show ptOkB x = true from List.all_eq_true.1 ALL.out x (List.mem_of_getElem? hx2))
   have ht0 := IT.out.1.1
   have ht1 := IT.out.1.2
   have C3 := hid (show 0 + 1 ≤ maxLen by decide)
   have C4 := hid (show (0 + 1) * 112 ≤ 140737488355328 by decide)
   clear hi3 hx2 hag2 hb
   go_wp2_with fail
   have C := impl_within t.a 0 ((n0 : Int) - 1) wr
   rw [IN0.out] at C
   refine C.mono ?_
   clear C
   rintro _ w3 ⟨rfl,hb3⟩
   obtain ⟨hc_w3,hf_w3⟩ := bcell hb3
   have HB3 := hid hb3
   go_wp2_with fail
   refine (impl_copyPoint _ x _ w3 (HAG2.out.below HB3.out) OK.out).mono ?_
   rintro _ w4 ⟨v4,s4,rfl,ha4,ho4,hb4⟩
   obtain ⟨E1,nE1,cE1,u1,E2,nE2,cE2,u2,E4,nE4,cE4,u4,E5,nE5,cE5,u5,rfl,z4,k1,k2,k4,k5⟩ := TPoint.agg ha4
   have HA4 := hid (show Dat.at_ w4 [.bool x.x.num.neg, .slice E1 nE1 cE1, .slice E2 nE2 cE2, .bool x.y.num.neg, .slice E4 nE4 cE4, .slice E5 nE5 cE5] x s4 by rw [z4]; exact TPoint.shut k1 k2 k4 k5)
   have HF4 := hid ho4.free
   have HR4 := hid (show ∀ b ∈ s4,wr.heap.size ≤ b from fun b hb => Nat.le_trans HB3.out.size (ho4.2 b hb).1)
   have HB4 := hid (Below.next HB3.out hb4)
   have q4 : w4.cell? ⟨w.heap.size,0,none⟩ = some (.slice (some ⟨be2,of2,none⟩) n0 c0) := (HB4.out.cell (p := ⟨w.heap.size,0,none⟩) hzr).trans q0
   clear hc_w3 hf_w3 hb3 ha4 ho4 hb4 z4 k1 k2 k4 k5
   have hownA := ownsRow_below hown.out HB4.out
   have W4 := hid (show w.heap.size + 1 ≤ w4.heap.size by have := HB4.out.size; omega)
   have hz4 : w.heap.size < w4.heap.size := by have := W4.out; omega
   go_wp2_with (at_builtin; refine wpList_push rfl _ _ 23 rfl (w.heap.size + 1) 34 i0 (.agg #[.bool false, .slice none 0 0, .slice none 0 0, .bool false, .slice none 0 0, .slice none 0 0]) 6 112 Tryz.underlying23 hi hz0 hz1 hz2 rfl (by decide) gB 0 cap cells (by go_simp; done) (hownA.alloc _) ⟨w4.heap.size,0,none⟩ 1 1 [.bool x.x.num.neg, .slice E1 nE1 cE1, .slice E2 nE2 cE2, .bool x.y.num.neg, .slice E4 nE4 cE4, .slice E5 nE5 cE5] (by go_simp; done) rfl (block_cells (heap_alloc_new _ _)) (Dat.one HA4.out) C3.out C4.out (le_alloc W4.out _) ?_; intro g' cap' w8 hown' hgrow' hor')
   have hgB := World.ownsRow.lt hown.out _ rfl
   have P := hid (push_ownG (w := w) (wr := wr) (g' := g') hfil.out hlen.out hown.out.1 how.out hnot.out HB.out hgB.2 (by have := hgB.1; simp at this; omega) (HB4.out.alloc HB4.out.size _) (Dat.keep HA4.out (fun g hg => Below.heap_alloc _ _ _ (Dat.lt HA4.out g hg))) (HF4.out.below (Below.box _)) HR4.out hgrow' hor')
   have OW := hid hown'
   have Q8 := hid (show w8.cell? ⟨w.heap.size,0,none⟩ = some (.slice (some ⟨be2,of2,none⟩) n0 c0) from (World.cell?_of_block (a := ⟨w.heap.size,0,none⟩) (hgrow'.block w.heap.size (by simp; have := W4.out; omega) (by intro e; injection e with e; have h9 : w.heap.size + 1 ≤ gB := hgB.1; omega))).trans (by go_simp))
   have L8 := hid (show w.heap.size < w8.heap.size by have := hgrow'.size; simp at this; have := W4.out; omega)
   clear hown' hgrow' hor' hownA hgB
   generalize (cells ++ [.bool x.x.num.neg, .slice E1 nE1 cE1, .slice E2 nE2 cE2, .bool x.y.num.neg, .slice E4 nE4 cE4, .slice E5 nE5 cE5] : List Value) = cells2 at OW P
   go_wp2_with fail
   go_roundg 2
   case measure => omega
   case rel => exact ⟨0 + 1,g',cap',cells2,(fss ++ [s4] : List (List Nat)),rfl,by go_num,rfl,OW.out,(show Filled w8 _ ((triPts m.points t).take (0 + 1)) _ by have h9 := P.out.1; rw [← PX.out] at h9; exact h9),rfl,P.out.2.1,P.out.2.2.1,P.out.2.2.2.1,⟨Q8.out,L8.out⟩⟩
  ·obtain rfl : gk = 1 + 1 := by omega
   obtain ⟨be2,of2,x,D1,nD1,cD1,d1,D2,nD2,cD2,d2,D4,nD4,cD4,d4,D5,nD5,cD5,d5,rfl,hbl2,hx2,p0,p1,p2,p3,p4,p5,hag2⟩ := TPoint.elemA (HS0.out.below hb) (show t.b.toNat < n0 by have := IT.out.2.1; omega)
   have HAG2 := hid hag2
   have PX := hid (ptAt_get hx2 rfl)
   have OK := hid (show ptOkB x = true from List.all_eq_true.1 ALL.out x (List.mem_of_getElem? hx2))
   have ht0 := IT.out.2.1.1
   have ht1 := IT.out.2.1.2
   have C3 := hid (show 1 + 1 ≤ maxLen by decide)
   have C4 := hid (show (1 + 1) * 112 ≤ 140737488355328 by decide)
   clear hi3 hx2 hag2 hb
   go_wp2_with fail
   have C := impl_within t.b 0 ((n0 : Int) - 1) wr
   rw [IN1.out] at C
   refine C.mono ?_
   clear C
   rintro _ w3 ⟨rfl,hb3⟩
   obtain ⟨hc_w3,hf_w3⟩ := bcell hb3
   have HB3 := hid hb3
   go_wp2_with fail
   refine (impl_copyPoint _ x _ w3 (HAG2.out.below HB3.out) OK.out).mono ?_
   rintro _ w4 ⟨v4,s4,rfl,ha4,ho4,hb4⟩
   obtain ⟨E1,nE1,cE1,u1,E2,nE2,cE2,u2,E4,nE4,cE4,u4,E5,nE5,cE5,u5,rfl,z4,k1,k2,k4,k5⟩ := TPoint.agg ha4
   have HA4 := hid (show Dat.at_ w4 [.bool x.x.num.neg, .slice E1 nE1 cE1, .slice E2 nE2 cE2, .bool x.y.num.neg, .slice E4 nE4 cE4, .slice E5 nE5 cE5] x s4 by rw [z4]; exact TPoint.shut k1 k2 k4 k5)
   have HF4 := hid ho4.free
   have HR4 := hid (show ∀ b ∈ s4,wr.heap.size ≤ b from fun b hb => Nat.le_trans HB3.out.size (ho4.2 b hb).1)
   have HB4 := hid (Below.next HB3.out hb4)
   have q4 : w4.cell? ⟨w.heap.size,0,none⟩ = some (.slice (some ⟨be2,of2,none⟩) n0 c0) := (HB4.out.cell (p := ⟨w.heap.size,0,none⟩) hzr).trans q0
   clear hc_w3 hf_w3 hb3 ha4 ho4 hb4 z4 k1 k2 k4 k5
   have hownA := ownsRow_below hown.out HB4.out
   have W4 := hid (show w.heap.size + 1 ≤ w4.heap.size by have := HB4.out.size; omega)
   have hz4 : w.heap.size < w4.heap.size := by have := W4.out; omega
   go_wp2_with (at_builtin; refine wpList_push rfl _ _ 23 rfl (w.heap.size + 1) 34 i0 (.agg #[.bool false, .slice none 0 0, .slice none 0 0, .bool false, .slice none 0 0, .slice none 0 0]) 6 112 Tryz.underlying23 hi hz0 hz1 hz2 rfl (by decide) gB 1 cap cells (by go_simp; done) (hownA.alloc _) ⟨w4.heap.size,0,none⟩ 1 1 [.bool x.x.num.neg, .slice E1 nE1 cE1, .slice E2 nE2 cE2, .bool x.y.num.neg, .slice E4 nE4 cE4, .slice E5 nE5 cE5] (by go_simp; done) rfl (block_cells (heap_alloc_new _ _)) (Dat.one HA4.out) C3.out C4.out (le_alloc W4.out _) ?_; intro g' cap' w8 hown' hgrow' hor')
   have hgB := World.ownsRow.lt hown.out _ rfl
   have P := hid (push_ownG (w := w) (wr := wr) (g' := g') hfil.out hlen.out hown.out.1 how.out hnot.out HB.out hgB.2 (by have := hgB.1; simp at this; omega) (HB4.out.alloc HB4.out.size _) (Dat.keep HA4.out (fun g hg => Below.heap_alloc _ _ _ (Dat.lt HA4.out g hg))) (HF4.out.below (Below.box _)) HR4.out hgrow' hor')
   have OW := hid hown'
   have Q8 := hid (show w8.cell? ⟨w.heap.size,0,none⟩ = some (.slice (some ⟨be2,of2,none⟩) n0 c0) from (World.cell?_of_block (a := ⟨w.heap.size,0,none⟩) (hgrow'.block w.heap.size (by simp; have := W4.out; omega) (by intro e; injection e with e; have h9 : w.heap.size + 1 ≤ gB := hgB.1; omega))).trans (by go_simp))
   have L8 := hid (show w.heap.size < w8.heap.size by have := hgrow'.size; simp at this; have := W4.out; omega)
   clear hown' hgrow' hor' hownA hgB
   generalize (cells ++ [.bool x.x.num.neg, .slice E1 nE1 cE1, .slice E2 nE2 cE2, .bool x.y.num.neg, .slice E4 nE4 cE4, .slice E5 nE5 cE5] : List Value) = cells2 at OW P
   go_wp2_with fail
   go_roundg 1
   case measure => omega
   case rel => exact ⟨1 + 1,g',cap',cells2,(fss ++ [s4] : List (List Nat)),rfl,by go_num,rfl,OW.out,(show Filled w8 _ ((triPts m.points t).take (1 + 1)) _ by have h9 := P.out.1; rw [← PX.out] at h9; exact h9),rfl,P.out.2.1,P.out.2.2.1,P.out.2.2.2.1,⟨Q8.out,L8.out⟩⟩
  ·obtain rfl : gk = 0 + 1 := by omega
   obtain ⟨be2,of2,x,D1,nD1,cD1,d1,D2,nD2,cD2,d2,D4,nD4,cD4,d4,D5,nD5,cD5,d5,rfl,hbl2,hx2,p0,p1,p2,p3,p4,p5,hag2⟩ := TPoint.elemA (HS0.out.below hb) (show t.c.toNat < n0 by have := IT.out.2.2; omega)
   have HAG2 := hid hag2
   have PX := hid (ptAt_get hx2 rfl)
   have OK := hid (show ptOkB x = true from List.all_eq_true.1 ALL.out x (List.mem_of_getElem? hx2))
   have ht0 := IT.out.2.2.1
   have ht1 := IT.out.2.2.2
   have C3 := hid (show 2 + 1 ≤ maxLen by decide)
   have C4 := hid (show (2 + 1) * 112 ≤ 140737488355328 by decide)
   clear hi3 hx2 hag2 hb
   go_wp2_with fail
   have C := impl_within t.c 0 ((n0 : Int) - 1) wr
   rw [IN2.out] at C
   refine C.mono ?_
   clear C
   rintro _ w3 ⟨rfl,hb3⟩
   obtain ⟨hc_w3,hf_w3⟩ := bcell hb3
   have HB3 := hid hb3
   go_wp2_with fail
   refine (impl_copyPoint _ x _ w3 (HAG2.out.below HB3.out) OK.out).mono ?_
   rintro _ w4 ⟨v4,s4,rfl,ha4,ho4,hb4⟩
   obtain ⟨E1,nE1,cE1,u1,E2,nE2,cE2,u2,E4,nE4,cE4,u4,E5,nE5,cE5,u5,rfl,z4,k1,k2,k4,k5⟩ := TPoint.agg ha4
   have HA4 := hid (show Dat.at_ w4 [.bool x.x.num.neg, .slice E1 nE1 cE1, .slice E2 nE2 cE2, .bool x.y.num.neg, .slice E4 nE4 cE4, .slice E5 nE5 cE5] x s4 by rw [z4]; exact TPoint.shut k1 k2 k4 k5)
   have HF4 := hid ho4.free
   have HR4 := hid (show ∀ b ∈ s4,wr.heap.size ≤ b from fun b hb => Nat.le_trans HB3.out.size (ho4.2 b hb).1)
   have HB4 := hid (Below.next HB3.out hb4)
   have q4 : w4.cell? ⟨w.heap.size,0,none⟩ = some (.slice (some ⟨be2,of2,none⟩) n0 c0) := (HB4.out.cell (p := ⟨w.heap.size,0,none⟩) hzr).trans q0
   clear hc_w3 hf_w3 hb3 ha4 ho4 hb4 z4 k1 k2 k4 k5
   have hownA := ownsRow_below hown.out HB4.out
   have W4 := hid (show w.heap.size + 1 ≤ w4.heap.size by have := HB4.out.size; omega)
   have hz4 : w.heap.size < w4.heap.size := by have := W4.out; omega
   go_wp2_with (at_builtin; refine wpList_push rfl _ _ 23 rfl (w.heap.size + 1) 34 i0 (.agg #[.bool false, .slice none 0 0, .slice none 0 0, .bool false, .slice none 0 0, .slice none 0 0]) 6 112 Tryz.underlying23 hi hz0 hz1 hz2 rfl (by decide) gB 2 cap cells (by go_simp; done) (hownA.alloc _) ⟨w4.heap.size,0,none⟩ 1 1 [.bool x.x.num.neg, .slice E1 nE1 cE1, .slice E2 nE2 cE2, .bool x.y.num.neg, .slice E4 nE4 cE4, .slice E5 nE5 cE5] (by go_simp; done) rfl (block_cells (heap_alloc_new _ _)) (Dat.one HA4.out) C3.out C4.out (le_alloc W4.out _) ?_; intro g' cap' w8 hown' hgrow' hor')
   have hgB := World.ownsRow.lt hown.out _ rfl
   have P := hid (push_ownG (w := w) (wr := wr) (g' := g') hfil.out hlen.out hown.out.1 how.out hnot.out HB.out hgB.2 (by have := hgB.1; simp at this; omega) (HB4.out.alloc HB4.out.size _) (Dat.keep HA4.out (fun g hg => Below.heap_alloc _ _ _ (Dat.lt HA4.out g hg))) (HF4.out.below (Below.box _)) HR4.out hgrow' hor')
   have OW := hid hown'
   have Q8 := hid (show w8.cell? ⟨w.heap.size,0,none⟩ = some (.slice (some ⟨be2,of2,none⟩) n0 c0) from (World.cell?_of_block (a := ⟨w.heap.size,0,none⟩) (hgrow'.block w.heap.size (by simp; have := W4.out; omega) (by intro e; injection e with e; have h9 : w.heap.size + 1 ≤ gB := hgB.1; omega))).trans (by go_simp))
   have L8 := hid (show w.heap.size < w8.heap.size by have := hgrow'.size; simp at this; have := W4.out; omega)
   clear hown' hgrow' hor' hownA hgB
   generalize (cells ++ [.bool x.x.num.neg, .slice E1 nE1 cE1, .slice E2 nE2 cE2, .bool x.y.num.neg, .slice E4 nE4 cE4, .slice E5 nE5 cE5] : List Value) = cells2 at OW P
   go_wp2_with fail
   go_roundg 0
   case measure => omega
   case rel => exact ⟨2 + 1,g',cap',cells2,(fss ++ [s4] : List (List Nat)),rfl,by go_num,rfl,OW.out,(show Filled w8 _ ((triPts m.points t).take (2 + 1)) _ by have h9 := P.out.1; rw [← PX.out] at h9; exact h9),rfl,P.out.2.1,P.out.2.2.1,P.out.2.2.2.1,⟨Q8.out,L8.out⟩⟩
  ·clear hi3 hb
   go_wp2
   go_ret
   exact push_doneG hown.out (Nat.le_succ _) hfil.out hlen.out how.out hnot.out HB.out
end Go.Proofs.YtpfipnankjeokaaGreat.X

/- IsMesh of the program,at valid meshes whose points are small integers. Written by gen_ism.py. -/
namespace Go.Proofs.YtpfipnankjeokaaGreat.X
open Go.RowKit Go.XB Go.XN
def usedTri (us : List Bool) (t : TTri) : Nat → List Bool
 | 0 => us
 | 1 => us.set t.a.toNat true
 | 2 => (us.set t.a.toNat true).set t.b.toNat true
 | _ => ((us.set t.a.toNat true).set t.b.toNat true).set t.c.toNat true
def usedTo (n : Nat) (ts : List TTri) : Nat → List Bool
 | 0 => List.replicate n false
 | k + 1 => usedTri (usedTo n ts k) (ts.getD k ⟨0,0,0,0,0⟩) 3
theorem usedTri_len (us : List Bool) (t : TTri) (i : Nat) : (usedTri us t i).length = us.length := by
 unfold usedTri; split <;> simp
theorem usedTo_len (n : Nat) (ts : List TTri) : ∀ k,(usedTo n ts k).length = n
 | 0 => by simp [usedTo]
 | k + 1 => by rw [usedTo,usedTri_len,usedTo_len]
structure MeshI (m : TMesh) (xs ys : List Int) : Prop where
 pts : PtsI m.points xs ys
 sx : Small xs
 sy : Small ys
 n3 : 3 ≤ m.points.length
 n40 : m.points.length ≤ 40
 ok : m.points.all ptOkB = true
 nd : m.points.Nodup
 t1 : 1 ≤ m.triangles.length
 t48 : m.triangles.length ≤ 48
 tri : ∀ t ∈ m.triangles,triIn m.points.length t ∧ inB 0 t.region 2 = true ∧ inB 0 t.level 60 = true ∧ 0 < turnI xs ys t.a t.b t.c
 sep : ∀ (k : Nat) (t : TTri) (j : Nat) (s : TTri),m.triangles[k]? = some t → j < k → m.triangles[j]? = some s → sepI xs ys s t = true ∨ sepI xs ys t s = true
 used : usedTo m.points.length m.triangles m.triangles.length = List.replicate m.points.length true
 noin : ∀ t ∈ m.triangles,noIn xs ys m.points.length t
end Go.Proofs.YtpfipnankjeokaaGreat.X
namespace Go.Proofs.YtpfipnankjeokaaGreat.X
open Go.RowKit Go.XB Go.XN
attribute [local go_sem] fillBy opAt deps depOf Region.wanted yielded
attribute [local simp] deps depOf MP.eq MP.agg MP.sl Facts
attribute [local go_sem] ix0 ix1 ix2
set_option linter.constructorNameAsVariable false

theorem infoBl : (Tryz.prog.info? 4).map (fun i => (i.zero,i.size,i.bytes)) = some (some (.bool false),1,1) := by kernel_rfl
def BRow (w : World) (base g n : Nat) (fs : List Bool) : Prop := w.ownsRow base 4 1 (.slice (some ⟨g,0,none⟩) n n) n (fs.map .bool)
theorem bools_row (n : Nat) : (madeCells (Value.bool false).cells (n * 1)).toList = (List.replicate n false).map .bool := by
 rw [List.map_replicate]
 refine List.eq_replicate_iff.2 ⟨by simp [size_madeCells],fun b hb => ?_⟩
 simp only [madeCells,Array.toList_map,List.mem_map] at hb
 obtain ⟨a, _,rfl⟩ := hb
 have : (Value.bool false).cells = #[.bool false] := rfl
 simp [this,Nat.mod_one]
theorem BRow.cell {w : World} {base g n : Nat} {fs : List Bool} (h : BRow w base g n fs) {j : Nat} {f : Bool} (hf : fs[j]? = some f) : w.cell? ⟨g,j,none⟩ = some (.bool f) ∧ w.frozen? ⟨g,j,none⟩ = false := by
 have hj := (List.getElem?_eq_some_iff.1 hf).1
 have hn : fs.length = n * 1 := by have := h.1; simpa using this
 exact ⟨by rw [World.ownsRow.cellAt h j (by omega),List.getElem?_map,hf]; rfl,World.ownsRow.frozenAt h j⟩
theorem BRow.lt {w : World} {base g n : Nat} {fs : List Bool} (h : BRow w base g n fs) : g < w.heap.size := (World.ownsRow.lt h _ rfl).2
theorem BRow.set {w : World} {base g n : Nat} {fs : List Bool} (h : BRow w base g n fs) (j : Nat) (f : Bool) : BRow (w.setCell ⟨g,j,none⟩ (.bool f)) base g n (fs.set j f) := by
 unfold BRow; rw [List.map_set]; exact (World.ownsRow.stored h j _).1
theorem BRow.below {w w' : World} {base g n : Nat} {fs : List Bool} (h : BRow w base g n fs) (hb : Below w.heap.size w w') : BRow w' base g n fs := ownsRow_below h hb

set_option maxHeartbeats 1000000 in
theorem index_bool (g n : Nat) (w : World) (hc : ∀ j,j < n → w.cell? ⟨g,j,none⟩ = some (.bool true)) (hg : g < w.heap.size) (hn : n ≤ 40) :
  Calls Tryz.prog 127 #[.slice (some ⟨g,0,none⟩) n n, .bool false] w (Gives w (.int .i64 (-1))) := by
 have HC := hid hc
 clear hc
 go_enter Tryz.func127,Tryz.ntmps127
 go_wp2_with fail
 go_loopg [8] n (fun g s wr => ∃ k : Nat,k + g = n ∧ s = .int .i64 k ∧ wr = w)
 case atStart => exact ⟨0,by omega,rfl,rfl⟩
 case round =>
  obtain ⟨k,hk,rfl,rfl⟩ := hrel
  rcases Nat.lt_or_ge k n with hkn | hkn
  ·have hki : (k : Int) < n := by omega
   have hk40 : (k : Int) ≤ 40 := by omega
   have hcell := HC.out k hkn
   obtain ⟨g,rfl⟩ : ∃ g,gk = g + 1 := ⟨gk - 1,by omega⟩
   have hk' := hid (show k + 1 + g = n by omega)
   clear hk hkn
   go_wp2_with fail
   go_roundg g
   case measure => omega
   case rel => exact ⟨k + 1,hk'.out,by go_num,rfl⟩
  ·obtain rfl : k = n := by omega
   have hki : ¬ ((k : Int) < k) := by omega
   clear hk hkn
   go_wp2
   go_ret
   exact ⟨rfl,Below.refl _ _⟩
set_option maxHeartbeats 400000 in
theorem contains_bool (g n : Nat) (w : World) (hc : ∀ j,j < n → w.cell? ⟨g,j,none⟩ = some (.bool true)) (hg : g < w.heap.size) (hn : n ≤ 40) :
  Calls Tryz.prog 79 #[.slice (some ⟨g,0,none⟩) n n, .bool false] w (Gives w (.bool false)) := by
 have C := hid (index_bool g n w hc hg hn)
 clear hc
 go_enter Tryz.func79,Tryz.ntmps79
 go_wp2_with fail
 refine C.out.mono ?_
 rintro _ w1 ⟨rfl,hb1⟩
 go_wp2
 go_ret
 exact ⟨rfl,hb1⟩

set_option maxHeartbeats 16000000 in
set_option maxRecDepth 10000 in
theorem impl_IsMesh (v : Value) (m : TMesh) (b : List Nat) (xs ys : List Int) (w : World) (hx : Agg w v m b) (hm : MeshI m xs ys) : Calls Tryz.prog 30 #[v] w (Gives w (.bool true)) := by
 obtain ⟨A0,n0,c0,s0,A1,n1,c1,s1,rfl,rfl,hs0,hs1⟩ := TMesh.agg hx
 have HS0 := hid hs0; have HS1 := hid hs1; have HM := hid hm
 have hl0 := hs0.1
 have hl1 := hs1.1
 have HL0 := hid hl0; have HL1 := hid hl1
 have hn3 : 3 ≤ n0 := by rw [← hl0]; exact hm.n3
 have hn40 : n0 ≤ 40 := by rw [← hl0]; exact hm.n40
 have hm1 : 1 ≤ n1 := by rw [← hl1]; exact hm.t1
 have hm48 : n1 ≤ 48 := by rw [← hl1]; exact hm.t48
 have hnc1 : n1 ≤ c1 := hs1.2.1
 have hn0i : (n0 : Int) ≤ 40 := by omega
 have hm48i : (n1 : Int) ≤ 48 := by omega
 have WT := hid (show inB 1 n1 48 = true by unfold inB; simp; omega)
 obtain ⟨i0,hi,hz0,hz1,hz2⟩ := info_parts infoBl
 have b2 := hid (show i0.bytes * n0 ≤ 281474976710656 by rw [hz2]; omega)
 have b3 := hid (show n0 ≤ maxLen by unfold maxLen; omega)
 clear hx hs0 hs1 hm hl0 hl1
 go_enter Tryz.func30,Tryz.ntmps30
 go_wp2_with fail
 refine (impl_arePoints A0 n0 c0 m.points s0 _ (HS0.out.below (by (with_reducible repeat first | exact Below.refl _ _ | (refine Below.set ?_ ?_ _; rotate_left; (simp <;> omega)) | refine Below.box_ ?_ _ | refine Below.next ?_ (by assumption)))) HM.out.ok HM.out.nd hn3 hn40).mono ?_
 rintro _ w1 ⟨rfl,hb1⟩
 obtain ⟨hc_w1,hf_w1⟩ := bcell hb1
 have hz0_w1 : w.heap.size < w1.heap.size := by have := hb1.size; (try simp at this); omega
 have HB1 := hid (show Below w.heap.size w w1 by (with_reducible repeat first | exact Below.refl _ _ | (refine Below.set ?_ ?_ _; rotate_left; (simp <;> omega)) | refine Below.box_ ?_ _ | refine Below.next ?_ (by assumption)))
 go_wp2_with fail
 have C := impl_within n1 1 48 w1
 rw [WT.out] at C
 refine C.mono ?_
 clear C
 rintro _ w2 ⟨rfl,hb2⟩
 obtain ⟨hc_w2,hf_w2⟩ := bcell hb2
 have hz0_w2 : w.heap.size < w2.heap.size := by have := hb2.size; (try simp at this); omega
 have HB2 := hid (Below.next HB1.out hb2)
 go_wp2_with fail
 refine (impl_place A0 n0 c0 m.points s0 xs ys w2 (HS0.out.below HB2.out) HM.out.pts HM.out.sx HM.out.sy hn40 (by omega)).mono ?_
 rintro _ w3 ⟨vp,rfl,hp,hb3⟩
 have HP := hid hp
 obtain ⟨A,cA,X,oX,cX,Y,oY,cY,bX,bY,rfl,hX,hY⟩ := hp
 clear hX hY
 obtain ⟨hc_w3,hf_w3⟩ := bcell hb3
 have hz0_w3 : w.heap.size < w3.heap.size := by have := hb3.size; (try simp at this); omega
 have HB3 := hid (Below.next HB2.out hb3)
 have k0 : w3.cell? ⟨w.heap.size,0,none⟩ = some (.slice A0 n0 c0) := by go_simp
 have k1 : w3.cell? ⟨w.heap.size,1,none⟩ = some (.slice A1 n1 c1) := by go_simp
 clear hc_w1 hf_w1 hc_w2 hf_w2 hc_w3 hf_w3 hb1 hb2 hb3
 go_upto_region 4 with fail
 have hsW : w.heap.size ≤ (w3.alloc (.cells #[.slice A n0 cA, .slice (some ⟨X,oX,none⟩) n0 cX, .slice (some ⟨Y,oY,none⟩) n0 cY] 111)).heap.size := by simp; omega
 go_upto_region 5 with (at_make; (refine wpList_make_full _ rfl _ _ 113 rfl w.heap.size 4 i0 (.bool false) 1 Tryz.underlying113 hi hz0 hz1 .i64 .i64 _ _ n0 rfl rfl rfl rfl b2.out b3.out hsW ?_); intro w4 hown4 hgrow4)
 rw [bools_row] at hown4
 rw [World.size_alloc] at hown4
 have hb4 := (Below.refl (w3.heap.size + 1) (w3.alloc (.cells #[.slice A n0 cA, .slice (some ⟨X,oX,none⟩) n0 cX, .slice (some ⟨Y,oY,none⟩) n0 cY] 111))).grown hgrow4 (by simp) (by intro k hk; cases hk)
 have BR4 := hid (show BRow w4 w.heap.size (w3.heap.size + 1) n0 (usedTo n0 m.triangles 0) from hown4)
 have HB4 := hid (show Below w3.heap.size w3 w4 from (Below.box _).trans (hb4.mono (by omega)))
 have p0 : w4.cell? ⟨w3.heap.size,0,none⟩ = some (.slice A n0 cA) := (hb4.cell (p := ⟨w3.heap.size,0,none⟩) (Nat.lt_succ_self _)).trans (by go_simp)
 have p1 : w4.cell? ⟨w3.heap.size,1,none⟩ = some (.slice (some ⟨X,oX,none⟩) n0 cX) := (hb4.cell (p := ⟨w3.heap.size,1,none⟩) (Nat.lt_succ_self _)).trans (by go_simp)
 have p2 : w4.cell? ⟨w3.heap.size,2,none⟩ = some (.slice (some ⟨Y,oY,none⟩) n0 cY) := (hb4.cell (p := ⟨w3.heap.size,2,none⟩) (Nat.lt_succ_self _)).trans (by go_simp)
 have j0 : w4.cell? ⟨w.heap.size,0,none⟩ = some (.slice A0 n0 c0) := (HB4.out.cell (p := ⟨w.heap.size,0,none⟩) hz0_w3).trans k0
 have j1 : w4.cell? ⟨w.heap.size,1,none⟩ = some (.slice A1 n1 c1) := (HB4.out.cell (p := ⟨w.heap.size,1,none⟩) hz0_w3).trans k1
 have hw34 : w3.heap.size + 1 < w4.heap.size := BR4.out.lt
 have hzw4 : w.heap.size < w4.heap.size := by omega
 clear hown4 hgrow4 hb4
 go_wp2_with fail
 go_loopg [32] n1 (fun g s wr => ∃ k : Nat,k + g = n1 ∧ s = .int .i64 k ∧ Hid (BRow wr w.heap.size (w3.heap.size + 1) n0 (usedTo n0 m.triangles k)) ∧ Below w3.heap.size w3 wr ∧ (wr.cell? ⟨w3.heap.size,0,none⟩ = some (.slice A n0 cA) ∧ wr.cell? ⟨w3.heap.size,1,none⟩ = some (.slice (some ⟨X,oX,none⟩) n0 cX) ∧ wr.cell? ⟨w3.heap.size,2,none⟩ = some (.slice (some ⟨Y,oY,none⟩) n0 cY)))
 case atStart => exact ⟨0,by omega,rfl,BR4.out,HB4.out,⟨p0,p1,p2⟩⟩
 case round =>
  clear p0 p1 p2 j0 j1
  obtain ⟨k,hk,rfl,hbr,hb,⟨p0,p1,p2⟩⟩ := hrel
  have HB := hid hb
  have HBW := hid (Below.next HB3.out hb)
  have HPr := hid (HP.out.below hb)
  have j0 : wr.cell? ⟨w.heap.size,0,none⟩ = some (.slice A0 n0 c0) := (hb.cell (p := ⟨w.heap.size,0,none⟩) hz0_w3).trans k0
  have j1 : wr.cell? ⟨w.heap.size,1,none⟩ = some (.slice A1 n1 c1) := (hb.cell (p := ⟨w.heap.size,1,none⟩) hz0_w3).trans k1
  have hwr : w3.heap.size + 1 < wr.heap.size := hbr.out.lt
  have hzr0 : w.heap.size < wr.heap.size := by omega
  have hzr1 : w3.heap.size < wr.heap.size := by omega
  rcases Nat.lt_or_ge k n1 with hkn | hkn
  ·rename World => wo
   have hki : (k : Int) < n1 := by omega
   have hki0 : (0 : Int) ≤ k := by omega
   have hk48 : (k : Int) ≤ 48 := by omega
   have hkc : (k : Int) ≤ c1 := by omega
   obtain ⟨be,of,t,hA,hbl,hx1,e0,e1,e2,e3,e4,hag⟩ := TTri.elemA (HS1.out.below HBW.out) hkn
   subst hA
   have HAG := hid hag
   have HAT0 := hid (show ∀ W : World,Agg W (.agg #[.int .i64 t.a, .int .i64 t.b, .int .i64 t.c, .int .i64 t.region, .int .i64 t.level]) t [] from fun W => by
    obtain ⟨_, _,i1,i2,i3,i4,i5⟩ := TTri.agg hag
    exact TTri.mkAgg i1 i2 i3 i4 i5)
   have TK := hid hx1
   have HT := hid (HM.out.tri t (List.mem_of_getElem? hx1))
   have IT := hid (show triIn n0 t by have := HT.out.1; rwa [HL0.out] at this)
   have UN := hid (show usedTri (usedTo n0 m.triangles k) t 3 = usedTo n0 m.triangles (k + 1) by
    rw [usedTo,List.getD_eq_getElem?_getD,hx1]; rfl)
   obtain ⟨g,rfl⟩ : ∃ g,gk = g + 1 := ⟨gk - 1,by omega⟩
   have hk' := hid (show k + 1 + g = n1 by omega)
   clear hk hkn hx1 hag hb
   go_wp2_with fail
   refine (impl_triangleOk _ n0 xs ys _ t _ (wo.alloc (.cells #[.int .i64 t.a, .int .i64 t.b, .int .i64 t.c, .int .i64 t.region, .int .i64 t.level] 77)) (HPr.out.below (Below.box _)) HM.out.sx HM.out.sy hn40 (HAG.out.below (Below.box _)) IT.out HT.out.2.1 HT.out.2.2.1 HT.out.2.2.2).mono ?_
   rintro _ w5 ⟨rfl,hb5⟩
   obtain ⟨hc_w5,hf_w5⟩ := bcell hb5
   have HB5 := hid (show Below wo.heap.size wo w5 from Below.trans (Below.box _) (hb5.mono (by simp)))
   have hs5 : wo.heap.size < w5.heap.size := by have := hb5.size; simp at this; omega
   go_wp2_with fail
   refine (impl_corners _ t _ w5 (HAG.out.below HB5.out)).mono ?_
   rintro _ w6 ⟨rfl,hb6⟩
   obtain ⟨hc_w6,hf_w6⟩ := bcell hb6
   have HB6 := hid (Below.next HB5.out hb6)
   have hs6 : wo.heap.size < w6.heap.size := by have := hb6.size; omega
   have hs60 : w.heap.size < w6.heap.size := by omega
   have hs61 : w3.heap.size < w6.heap.size := by omega
   have hs50 : w.heap.size < w5.heap.size := by omega
   have hs51 : w3.heap.size < w5.heap.size := by omega
   go_wp2_with fail
   go_loopg [43] 3 (fun g s wr => ∃ i : Nat,i + g = 3 ∧ s = .int .i64 i ∧ Hid (BRow wr w.heap.size (w3.heap.size + 1) n0 (usedTri (usedTo n0 m.triangles k) t i)) ∧ Below w3.heap.size w3 wr ∧ wo.heap.size < wr.heap.size ∧ (wr.cell? ⟨w3.heap.size,0,none⟩ = some (.slice A n0 cA) ∧ wr.cell? ⟨w3.heap.size,1,none⟩ = some (.slice (some ⟨X,oX,none⟩) n0 cX) ∧ wr.cell? ⟨w3.heap.size,2,none⟩ = some (.slice (some ⟨Y,oY,none⟩) n0 cY) ∧ wr.cell? ⟨wo.heap.size,0,none⟩ = some (.int .i64 t.a) ∧ wr.cell? ⟨wo.heap.size,1,none⟩ = some (.int .i64 t.b) ∧ wr.cell? ⟨wo.heap.size,2,none⟩ = some (.int .i64 t.c) ∧ wr.cell? ⟨wo.heap.size,3,none⟩ = some (.int .i64 t.region) ∧ wr.cell? ⟨wo.heap.size,4,none⟩ = some (.int .i64 t.level)))
   case atStart => exact ⟨0,rfl,rfl,hbr.out.below HB6.out,Below.next HB.out HB6.out,hs6,⟨by go_simp,by go_simp,by go_simp,by go_simp,by go_simp,by go_simp,by go_simp,by go_simp⟩⟩
   case round =>
   clear hc_w5 hf_w5 hc_w6 hf_w6 p0 p1 p2
   obtain ⟨i,hi2,rfl,hbr2,hb2,hwo,⟨p0,p1,p2,t0,t1,t2,t3,t4⟩⟩ := hrel
   have HB2' := hid hb2
   obtain rfl | rfl | rfl | rfl : i = 0 ∨ i = 1 ∨ i = 2 ∨ i = 3 := by omega
   ·obtain rfl : gk = 2 + 1 := by omega
    have h0 := IT.out.1.1
    have h1 := IT.out.1.2
    have hcell := hbr2.out.cell (j := t.a.toNat) (f := (usedTri (usedTo n0 m.triangles k) t 0).getD t.a.toNat false) (by
     rw [List.getD_eq_getElem?_getD,List.getElem?_eq_getElem (by rw [usedTri_len,usedTo_len]; omega)]; rfl)
    obtain ⟨uc,uf⟩ := hcell
    have BR3 := hid (show BRow (wr.setCell ⟨w3.heap.size + 1,t.a.toNat,none⟩ (.bool true)) w.heap.size (w3.heap.size + 1) n0 (usedTri (usedTo n0 m.triangles k) t (0 + 1)) from hbr2.out.set _ _)
    have HB3 := hid (show Below w3.heap.size w3 (wr.setCell ⟨w3.heap.size + 1,t.a.toNat,none⟩ (.bool true)) from hb2.setCell (p := ⟨w3.heap.size + 1,t.a.toNat,none⟩) (show w3.heap.size ≤ w3.heap.size + 1 by omega) _)
    have hlt := hbr2.out.lt
    clear hi2
    go_wp2_with fail
    go_roundg 2
    case measure => omega
    case rel => exact ⟨0 + 1,rfl,by go_num,BR3.out,HB3.out,by simpa using hwo,⟨by go_simp,by go_simp,by go_simp,by go_simp,by go_simp,by go_simp,by go_simp,by go_simp⟩⟩
   ·obtain rfl : gk = 1 + 1 := by omega
    have h0 := IT.out.2.1.1
    have h1 := IT.out.2.1.2
    have hcell := hbr2.out.cell (j := t.b.toNat) (f := (usedTri (usedTo n0 m.triangles k) t 1).getD t.b.toNat false) (by
     rw [List.getD_eq_getElem?_getD,List.getElem?_eq_getElem (by rw [usedTri_len,usedTo_len]; omega)]; rfl)
    obtain ⟨uc,uf⟩ := hcell
    have BR3 := hid (show BRow (wr.setCell ⟨w3.heap.size + 1,t.b.toNat,none⟩ (.bool true)) w.heap.size (w3.heap.size + 1) n0 (usedTri (usedTo n0 m.triangles k) t (1 + 1)) from hbr2.out.set _ _)
    have HB3 := hid (show Below w3.heap.size w3 (wr.setCell ⟨w3.heap.size + 1,t.b.toNat,none⟩ (.bool true)) from hb2.setCell (p := ⟨w3.heap.size + 1,t.b.toNat,none⟩) (show w3.heap.size ≤ w3.heap.size + 1 by omega) _)
    have hlt := hbr2.out.lt
    clear hi2
    go_wp2_with fail
    go_roundg 1
    case measure => omega
    case rel => exact ⟨1 + 1,rfl,by go_num,BR3.out,HB3.out,by simpa using hwo,⟨by go_simp,by go_simp,by go_simp,by go_simp,by go_simp,by go_simp,by go_simp,by go_simp⟩⟩
   ·obtain rfl : gk = 0 + 1 := by omega
    have h0 := IT.out.2.2.1
    have h1 := IT.out.2.2.2
    have hcell := hbr2.out.cell (j := t.c.toNat) (f := (usedTri (usedTo n0 m.triangles k) t 2).getD t.c.toNat false) (by
     rw [List.getD_eq_getElem?_getD,List.getElem?_eq_getElem (by rw [usedTri_len,usedTo_len]; omega)]; rfl)
    obtain ⟨uc,uf⟩ := hcell
    have BR3 := hid (show BRow (wr.setCell ⟨w3.heap.size + 1,t.c.toNat,none⟩ (.bool true)) w.heap.size (w3.heap.size + 1) n0 (usedTri (usedTo n0 m.triangles k) t (2 + 1)) from hbr2.out.set _ _)
    have HB3 := hid (show Below w3.heap.size w3 (wr.setCell ⟨w3.heap.size + 1,t.c.toNat,none⟩ (.bool true)) from hb2.setCell (p := ⟨w3.heap.size + 1,t.c.toNat,none⟩) (show w3.heap.size ≤ w3.heap.size + 1 by omega) _)
    have hlt := hbr2.out.lt
    clear hi2
    go_wp2_with fail
    go_roundg 0
    case measure => omega
    case rel => exact ⟨2 + 1,rfl,by go_num,BR3.out,HB3.out,by simpa using hwo,⟨by go_simp,by go_simp,by go_simp,by go_simp,by go_simp,by go_simp,by go_simp,by go_simp⟩⟩
   ·clear hi2
    have q0 : wr.cell? ⟨w.heap.size,0,none⟩ = some (.slice A0 n0 c0) := (hb2.cell (p := ⟨w.heap.size,0,none⟩) hz0_w3).trans k0
    have q1 : wr.cell? ⟨w.heap.size,1,none⟩ = some (.slice (some ⟨be,of,none⟩) n1 c1) := (hb2.cell (p := ⟨w.heap.size,1,none⟩) hz0_w3).trans k1
    have hq0 : w.heap.size < wr.heap.size := by have := hbr2.out.lt; omega
    have BR5 := hid (show BRow wr w.heap.size (w3.heap.size + 1) n0 (usedTo n0 m.triangles (k + 1)) by rw [← UN.out]; exact hbr2.out)
    clear j0 j1 hbr hbr2
    go_wp2_with fail
    go_loopg [55] k (fun g s wr => ∃ j : Nat,j + g = k ∧ s = .int .i64 j ∧ Hid (BRow wr w.heap.size (w3.heap.size + 1) n0 (usedTo n0 m.triangles (k + 1))) ∧ Below w3.heap.size w3 wr ∧ wo.heap.size < wr.heap.size ∧ (wr.cell? ⟨w3.heap.size,0,none⟩ = some (.slice A n0 cA) ∧ wr.cell? ⟨w3.heap.size,1,none⟩ = some (.slice (some ⟨X,oX,none⟩) n0 cX) ∧ wr.cell? ⟨w3.heap.size,2,none⟩ = some (.slice (some ⟨Y,oY,none⟩) n0 cY) ∧ wr.cell? ⟨wo.heap.size,0,none⟩ = some (.int .i64 t.a) ∧ wr.cell? ⟨wo.heap.size,1,none⟩ = some (.int .i64 t.b) ∧ wr.cell? ⟨wo.heap.size,2,none⟩ = some (.int .i64 t.c) ∧ wr.cell? ⟨wo.heap.size,3,none⟩ = some (.int .i64 t.region) ∧ wr.cell? ⟨wo.heap.size,4,none⟩ = some (.int .i64 t.level)))
    case atStart => exact ⟨0,by omega,rfl,BR5.out,HB2'.out,hwo,⟨p0,p1,p2,t0,t1,t2,t3,t4⟩⟩
    case round =>
     clear p0 p1 p2 t0 t1 t2 t3 t4 q0 q1 hq0 hwo
     obtain ⟨j,hj,rfl,hbr3,hb3,hwo,⟨p0,p1,p2,t0,t1,t2,t3,t4⟩⟩ := hrel
     have HBj := hid hb3
     have HBWj := hid (Below.next HB3.out hb3)
     have hq3 : w3.heap.size < wr.heap.size := by have := hbr3.out.lt; omega
     rcases Nat.lt_or_ge j k with hjk | hjk
     ·have hji : (j : Int) < k := by omega
      have hjn : j < n1 := by omega
      obtain ⟨be',of',s,hA',hbl',hx2,u0,u1,u2,u3,u4,hagS⟩ := TTri.elemA (HS1.out.below HBWj.out) hjn
      cases hA'
      have HAS := hid hagS
      have SP := hid (HM.out.sep k t j s TK.out hjk hx2)
      have IS := hid (show triIn n0 s by have := (HM.out.tri s (List.mem_of_getElem? hx2)).1; rwa [HL0.out] at this)
      obtain ⟨g',rfl⟩ : ∃ g',gk = g' + 1 := ⟨gk - 1,by omega⟩
      have hj' := hid (show j + 1 + g' = k by omega)
      have hsep1 := impl_separates _ n0 xs ys (.agg #[.int .i64 s.a, .int .i64 s.b, .int .i64 s.c, .int .i64 s.region, .int .i64 s.level]) (.agg #[.int .i64 t.a, .int .i64 t.b, .int .i64 t.c, .int .i64 t.region, .int .i64 t.level]) s t _ _ (wr.alloc (.cells #[.int .i64 s.a, .int .i64 s.b, .int .i64 s.c, .int .i64 s.region, .int .i64 s.level] 77)) ((HP.out.below HBj.out).below (Below.box _)) HM.out.sx HM.out.sy (HAS.out.below (Below.box _)) (HAT0.out _) IS.out IT.out
      have S1 := hid hsep1
      clear hj hjk hx2 hagS hsep1
      cases hs1 : sepI xs ys s t
      ·have SF := hid hs1
       have ST := hid (show sepI xs ys t s = true from (SP.out).resolve_left (by rw [hs1]; simp))
       clear hs1
       go_wp2_with fail
       have C := S1.out
       rw [SF.out] at C
       refine C.mono ?_
       clear C
       rintro _ w8 ⟨rfl,hb8⟩
       obtain ⟨hc_w8,hf_w8⟩ := bcell hb8
       have HB8 := hid (show Below wr.heap.size wr w8 from Below.trans (Below.box _) (hb8.mono (by simp)))
       have hs8 : wr.heap.size < w8.heap.size := by have := hb8.size; simp at this; omega
       have hs80 : w3.heap.size < w8.heap.size := by omega
       have hs81 : wo.heap.size < w8.heap.size := by omega
       go_wp2_with fail
       have C := impl_separates _ n0 xs ys (.agg #[.int .i64 t.a, .int .i64 t.b, .int .i64 t.c, .int .i64 t.region, .int .i64 t.level]) (.agg #[.int .i64 s.a, .int .i64 s.b, .int .i64 s.c, .int .i64 s.region, .int .i64 s.level]) t s _ _ w8 ((HP.out.below HBj.out).below HB8.out) HM.out.sx HM.out.sy (HAT0.out _) (HAS.out.below HB8.out) IT.out IS.out
       rw [ST.out] at C
       refine C.mono ?_
       clear C
       rintro _ w9 ⟨rfl,hb9⟩
       obtain ⟨hc_w9,hf_w9⟩ := bcell hb9
       have HB9 := hid (Below.next HB8.out hb9)
       have hs9 : w8.heap.size ≤ w9.heap.size := hb9.size
       go_wp2_with fail
       go_roundg g'
       case measure => omega
       case rel => exact ⟨j + 1,hj'.out,by go_num,hbr3.out.below HB9.out,Below.next HBj.out HB9.out,by omega,⟨by go_simp,by go_simp,by go_simp,by go_simp,by go_simp,by go_simp,by go_simp,by go_simp⟩⟩
      ·have SF := hid hs1
       clear hs1
       go_wp2_with fail
       have C := S1.out
       rw [SF.out] at C
       refine C.mono ?_
       clear C
       rintro _ w8 ⟨rfl,hb8⟩
       obtain ⟨hc_w8,hf_w8⟩ := bcell hb8
       have HB8 := hid (show Below wr.heap.size wr w8 from Below.trans (Below.box _) (hb8.mono (by simp)))
       have hs8 : wr.heap.size < w8.heap.size := by have := hb8.size; simp at this; omega
       go_wp2_with fail
       go_roundg g'
       case measure => omega
       case rel => exact ⟨j + 1,hj'.out,by go_num,hbr3.out.below HB8.out,Below.next HBj.out HB8.out,by omega,⟨by go_simp,by go_simp,by go_simp,by go_simp,by go_simp,by go_simp,by go_simp,by go_simp⟩⟩
     ·obtain rfl : j = k := by omega
      have hji : ¬ ((j : Int) < j) := by omega
      clear hj hjk
      go_wp2_with fail
      go_roundg g
      case measure => omega
      case rel => exact ⟨j + 1,hk'.out,by go_num,hbr3.out,HBj.out,⟨p0,p1,p2⟩⟩
  ·obtain rfl : k = n1 := by omega
   have hki : ¬ ((k : Int) < k) := by omega
   have BT := hid (show BRow wr w.heap.size (w3.heap.size + 1) n0 (List.replicate n0 true) by
    have h1 := HM.out.used
    rw [HL0.out,HL1.out] at h1
    rw [← h1]; exact hbr.out)
   have CB := hid (contains_bool (w3.heap.size + 1) n0 wr (fun j hj => (BT.out.cell (j := j) (f := true) (by rw [List.getElem?_replicate,if_pos hj])).1) BT.out.lt hn40)
   clear hk hkn hb hbr
   go_wp2_with fail
   refine CB.out.mono ?_
   rintro _ w5 ⟨rfl,hb5⟩
   obtain ⟨hc_w5,hf_w5⟩ := bcell hb5
   have hz5 : w.heap.size < w5.heap.size := by have := hb5.size; omega
   have hz6 : w3.heap.size < w5.heap.size := by have := hb5.size; omega
   have HB5 := hid (Below.next HBW.out hb5)
   go_wp2_with fail
   refine (impl_hasInside _ n0 xs ys A1 k c1 m.triangles s1 w5 (HPr.out.below hb5) HM.out.sx HM.out.sy hn40 (HS1.out.below HB5.out) hm48 (fun t ht => by have := (HM.out.tri t ht).1; rwa [HL0.out] at this) (fun t ht => by have := HM.out.noin t ht; rwa [HL0.out] at this)).mono ?_
   rintro _ w6 ⟨rfl,hb6⟩
   go_wp2
   go_ret
   exact ⟨rfl,Below.next HB5.out hb6⟩
end Go.Proofs.YtpfipnankjeokaaGreat.X

/- field of the program: the field of three flows in a triangle at a point. -/
namespace Go.Proofs.YtpfipnankjeokaaGreat.X
open Go.RowKit Go.XB Go.XN
def fieldTo (l : List TPoint) (fs : List TRat) (z : TPoint) : Nat → TPoint
 | 0 => ptI 0 0
 | k + 1 => padd (fieldTo l fs z k) (pscale (fs.getD k zeroR) (psub z (l.getD k pt0)))
def fieldP (a b c : TPoint) (fs : List TRat) (z : TPoint) : TPoint := pscale (rdiv (rint 1) (darea a b c)) (fieldTo [a,b,c] fs z 3)
theorem heap_keep' {w w' : World} {b : Nat} {o : Obj} (h : w.heap[b]? = some o) (hb : Below w.heap.size w w') : w'.heap[b]? = some o := (hb.block b (lt_of_get h)).trans h
attribute [local go_sem] fillBy opAt deps depOf Region.wanted yielded
attribute [local simp] deps depOf MP.eq MP.agg MP.sl Facts
set_option linter.constructorNameAsVariable false
theorem ratOk_one : ratOkB (rint 1) = true := ratOkB_iff.2 (rint_V (by decide) (by decide))

set_option maxHeartbeats 8000000 in
set_option maxRecDepth 10000 in
theorem impl_field (A : Option Addr) (c : Nat) (a1 b1 c1 : TPoint) (bs : List Nat) (B : Option Addr) (d : Nat) (fs : List TRat) (ds : List Nat) (vz : Value) (z : TPoint) (bz : List Nat) (w : World) (hx : Sl w A 3 c [a1,b1,c1] bs) (hf : Sl w B 3 d fs ds) (hz : Agg w vz z bz)
  (hd1 : ratOkB (darea a1 b1 c1) = true) (hd2 : (darea a1 b1 c1).num.mag ≠ []) :
  Calls Tryz.prog 40 #[.slice A 3 c, .slice B 3 d,vz] w (GivesAgg w (fieldP a1 b1 c1 fs z)) := by
 have HX := hid hx; have HF := hid hf; have HZ := hid hz; have HD1 := hid hd1; have HD2 := hid hd2
 obtain ⟨Z1,nZ1,cZ1,r1,Z2,nZ2,cZ2,r2,Z4,nZ4,cZ4,r4,Z5,nZ5,cZ5,r5,rfl,rfl,hr1,hr2,hr4,hr5⟩ := TPoint.agg hz
 clear hr1 hr2 hr4 hr5 hx hf hz hd1 hd2
 go_enter Tryz.func40,Tryz.ntmps40
 go_wp2_with fail
 refine (impl_PointAt 0 0 _ (by constructor <;> decide) (by constructor <;> decide)).mono ?_
 rintro _ w1 ⟨v1,s1,rfl,ha1,ho1,hb1⟩
 obtain ⟨O1,nO1,cO1,o1,O2,nO2,cO2,o2,O4,nO4,cO4,o4,O5,nO5,cO5,o5,rfl,hzo, _, _, _, _⟩ := TPoint.agg ha1
 have HA := hid ha1; have HO := hid ho1
 clear ha1 ho1 hzo
 obtain ⟨hc_w1,hf_w1⟩ := bcell hb1
 have hz0_w1 : w.heap.size < w1.heap.size := by have := hb1.size; (try simp at this); omega
 have hz1_w1 : w.heap.size + 1 < w1.heap.size := by have := hb1.size; (try simp at this); omega
 have HB1 := hid (show Below w.heap.size w w1 by (with_reducible repeat first | exact Below.refl _ _ | (refine Below.set ?_ ?_ _; rotate_left; (simp <;> omega)) | refine Below.box_ ?_ _ | refine Below.next ?_ (by assumption)))
 have HW1 := hid (show w.heap.size + 2 ≤ w1.heap.size by have := hb1.size; simp at this; omega)
 have HR := hid (show w1.heap[w.heap.size + 1]? = some (.cells #[.bool false, .slice none 0 0, .slice none 0 0, .bool false, .slice none 0 0, .slice none 0 0] 34) from by
  refine (hb1.block _ (by simp)).trans ?_
  have := heap_alloc_new (w.alloc (.cells #[.bool z.x.num.neg, .slice Z1 nZ1 cZ1, .slice Z2 nZ2 cZ2, .bool z.y.num.neg, .slice Z4 nZ4 cZ4, .slice Z5 nZ5 cZ5] 34)) (.cells #[.bool false, .slice none 0 0, .slice none 0 0, .bool false, .slice none 0 0, .slice none 0 0] 34)
  rw [World.size_alloc] at this
  exact this)
 have hzw1 : w.heap.size < w1.heap.size := by have := HW1.out; omega
 go_wp2_with fail
 go_loopg [13] 3 (fun g s wr => ∃ (k : Nat) (P1 : Option Addr) (n1 m1 : Nat) (P2 : Option Addr) (n2 m2 : Nat) (P4 : Option Addr) (n4 m4 : Nat) (P5 : Option Addr) (n5 m5 : Nat) (rs : List Nat),k + g = 3 ∧ s = .int .i64 k ∧ Hid (Agg wr (.agg #[.bool (fieldTo [a1,b1,c1] fs z k).x.num.neg, .slice P1 n1 m1, .slice P2 n2 m2, .bool (fieldTo [a1,b1,c1] fs z k).y.num.neg, .slice P4 n4 m4, .slice P5 n5 m5]) (fieldTo [a1,b1,c1] fs z k) rs) ∧ Hid (Free wr rs ∧ ∀ b ∈ rs,w.heap.size + 2 ≤ b ∧ b ≠ w1.heap.size) ∧ Below w.heap.size w wr ∧ Hid (wr.heap[w.heap.size + 1]? = some (.cells #[.bool false, .slice none 0 0, .slice none 0 0, .bool false, .slice none 0 0, .slice none 0 0] 34)) ∧ w1.heap.size < wr.heap.size ∧ (wr.cell? ⟨w.heap.size,0,none⟩ = some (.bool z.x.num.neg) ∧ wr.cell? ⟨w.heap.size,1,none⟩ = some (.slice Z1 nZ1 cZ1) ∧ wr.cell? ⟨w.heap.size,2,none⟩ = some (.slice Z2 nZ2 cZ2) ∧ wr.cell? ⟨w.heap.size,3,none⟩ = some (.bool z.y.num.neg) ∧ wr.cell? ⟨w.heap.size,4,none⟩ = some (.slice Z4 nZ4 cZ4) ∧ wr.cell? ⟨w.heap.size,5,none⟩ = some (.slice Z5 nZ5 cZ5)) ∧ (wr.cell? ⟨w1.heap.size,0,none⟩ = some (.bool (fieldTo [a1,b1,c1] fs z k).x.num.neg) ∧ wr.cell? ⟨w1.heap.size,1,none⟩ = some (.slice P1 n1 m1) ∧ wr.cell? ⟨w1.heap.size,2,none⟩ = some (.slice P2 n2 m2) ∧ wr.cell? ⟨w1.heap.size,3,none⟩ = some (.bool (fieldTo [a1,b1,c1] fs z k).y.num.neg) ∧ wr.cell? ⟨w1.heap.size,4,none⟩ = some (.slice P4 n4 m4) ∧ wr.cell? ⟨w1.heap.size,5,none⟩ = some (.slice P5 n5 m5)) ∧ (wr.frozen? ⟨w1.heap.size,0,none⟩ = false ∧ wr.frozen? ⟨w1.heap.size,1,none⟩ = false ∧ wr.frozen? ⟨w1.heap.size,2,none⟩ = false ∧ wr.frozen? ⟨w1.heap.size,3,none⟩ = false ∧ wr.frozen? ⟨w1.heap.size,4,none⟩ = false ∧ wr.frozen? ⟨w1.heap.size,5,none⟩ = false))
 case atStart =>
  refine ⟨0,O1,nO1,cO1,O2,nO2,cO2,O4,nO4,cO4,O5,nO5,cO5,s1,rfl,rfl,HA.out.below (Below.box _),⟨HO.out.free.below (Below.box _),fun b hb => by have := HO.out.range b hb; simp at this; omega⟩,HB1.out.alloc HB1.out.size _,heap_keep' HR.out (Below.box _),by simp,⟨?_, ?_, ?_, ?_, ?_, ?_⟩,⟨?_, ?_, ?_, ?_, ?_, ?_⟩,⟨?_, ?_, ?_, ?_, ?_, ?_⟩⟩
  all_goals (try unfold fieldTo)
  all_goals go_simp
 case round =>
  clear hc_w1 hf_w1
  obtain ⟨k,P1,n1,m1,P2,n2,m2,P4,n4,m4,P5,n5,m5,rs,hk,rfl,hag,hfr,hb,hres,hsz,⟨z0,z1,z2,z3,z4,z5⟩,⟨p0,p1,p2,p3,p4,p5⟩,⟨f0,f1,f2,f3,f4,f5⟩⟩ := hrel
  have HB := hid hb
  have hzr : w.heap.size < wr.heap.size := by have := HW1.out; omega
  rcases Nat.lt_or_ge k 3 with hkn | hkn
  ·have hki : (k : Int) < 3 := by omega
   have hki0 : (0 : Int) ≤ k := by omega
   obtain ⟨g,rfl⟩ : ∃ g,gk = g + 1 := ⟨gk - 1,by omega⟩
   have hk' := hid (show k + 1 + g = 3 by omega)
   have hk3 : k + 1 ≤ 3 := hkn
   obtain ⟨be,of,x,D1,nD1,cD1,d1,D2,nD2,cD2,d2,D4,nD4,cD4,d4,D5,nD5,cD5,d5,hA1,hbl,hx1,e0,e1,e2,e3,e4,e5,hagx⟩ := TPoint.elemA (HX.out.below hb) hkn
   obtain ⟨bf,off,r,F1,nF1,cF1,t1,F2,nF2,cF2,t2,hA2,hblf,hr1,g0,g1,g2,hagr⟩ := TRat.elemA (HF.out.below hb) hkn
   subst hA1; subst hA2
   have NX := hid (show padd (fieldTo [a1,b1,c1] fs z k) (pscale r (psub z x)) = fieldTo [a1,b1,c1] fs z (k + 1) by
    rw [fieldTo,List.getD_eq_getElem?_getD,List.getD_eq_getElem?_getD,hr1,hx1]; rfl)
   have HGX := hid hagx; have HGR := hid hagr
   generalize fieldTo [a1,b1,c1] fs z k = out at *
   clear hk hkn hx1 hr1 hagx hagr hb
   go_wp2_with fail
   refine wp_region_last (by simp) (by kernel_rfl) (by kernel_rfl) (by kernel_rfl) (by kernel_rfl) ?_
   dsimp only [List.dropLast,List.getLast,List.length]
   iterate 7
    apply walkM_eq
    case h =>
     intro yq zq wq hC hd
     obtain ⟨hcq,hfq⟩ := bcell hC
     simp at hd
     refine ⟨by go_simp; done, ?_⟩
     go_simp
     first | (go_ints; exact rfl) | (go_ints; rw [if_pos (by omega)]; try exact rfl) | exact rfl | (rw [if_pos (by omega)]; try exact rfl)
   refine walkM_call (MP.agg (psub z x)) ?_ ?_
   ·intro yq zq wq hC hd
    obtain ⟨hcq,hfq⟩ := bcell hC
    simp at hd
    refine ⟨by go_simp; done, ?_⟩
    apply Exists.intro
    apply Exists.intro
    constructor
    ·go_simp
     exact ⟨rfl,rfl⟩
    ·exact gives_agg (impl_SubtractPoints _ _ z x _ _ wq ((HZ.out.below HB.out).below (by (with_reducible repeat first | exact Below.refl _ _ | (refine Below.set ?_ ?_ _; rotate_left; (simp <;> omega)) | refine Below.box_ ?_ _ | refine Below.next ?_ (by assumption)))) (HGX.out.below (by (with_reducible repeat first | exact Below.refl _ _ | (refine Below.set ?_ ?_ _; rotate_left; (simp <;> omega)) | refine Below.box_ ?_ _ | refine Below.next ?_ (by assumption)))))
   refine walkM_call (MP.agg (pscale r (psub z x))) ?_ ?_
   ·intro yq zq wq hC hd
    obtain ⟨hcq,hfq⟩ := bcell hC
    simp at hd
    refine ⟨by go_simp; done, ?_⟩
    apply Exists.intro
    apply Exists.intro
    constructor
    ·go_simp
     exact ⟨rfl,rfl⟩
    ·obtain ⟨_,t, _⟩ := hd
     exact gives_agg (impl_ScalePoint _ _ r (psub z x) _ _ wq (HGR.out.below (by (with_reducible repeat first | exact Below.refl _ _ | (refine Below.set ?_ ?_ _; rotate_left; (simp <;> omega)) | refine Below.box_ ?_ _ | refine Below.next ?_ (by assumption)))) t)
   refine walkM_call (MP.agg (padd out (pscale r (psub z x)))) ?_ ?_
   ·intro yq zq wq hC hd
    obtain ⟨hcq,hfq⟩ := bcell hC
    simp at hd
    refine ⟨by go_simp; done, ?_⟩
    apply Exists.intro
    apply Exists.intro
    constructor
    ·go_simp
     exact ⟨rfl,rfl⟩
    ·obtain ⟨_,t, _⟩ := hd
     exact gives_agg (impl_AddPoints _ _ out (pscale r (psub z x)) _ _ wq (hag.out.below (by (with_reducible repeat first | exact Below.refl _ _ | (refine Below.set ?_ ?_ _; rotate_left; (simp <;> omega)) | refine Below.box_ ?_ _ | refine Below.next ?_ (by assumption)))) t)
   intro yq zq wa hC hd hdis0
   have hdis := hid hdis0
   clear hdis0
   simp at hd
   have q9 := hd.2.2.2.2.2.2.2.2.2
   obtain ⟨⟨ha9,hf9⟩,hr9⟩ := q9
   rw [NX.out] at ha9
   obtain ⟨E1,nE1,cE1,u1,E2,nE2,cE2,u2,E4,nE4,cE4,u4,E5,nE5,cE5,u5,y9,hz9, _, _, _, _⟩ := TPoint.agg ha9
   rw [y9] at ha9
   have HBa := hid (show Below wr.heap.size wr wa by (with_reducible repeat first | exact Below.refl _ _ | (refine Below.set ?_ ?_ _; rotate_left; (simp <;> omega)) | refine Below.box_ ?_ _ | refine Below.next ?_ (by assumption)))
   have A9 := hid ha9; have F9 := hid hf9
   have R9 := hid (show ∀ b ∈ zq 9,w.heap.size + 2 ≤ b ∧ b ≠ w1.heap.size from fun b hb => by have := (hr9 b hb).1; (try simp at this); have := HW1.out; omega)
   obtain ⟨hc_wa,hf_wa⟩ := bcell HBa.out
   have hsa : w1.heap.size < wa.heap.size := by have := HBa.out.size; omega
   have hsz0 : w.heap.size < wa.heap.size := by omega
   generalize zq 9 = r9 at *
   clear hd hdis ha9 hf9 hr9 hz9 hC
   have hnz : w1.heap.size ≠ w.heap.size := by have := HW1.out; omega
   have hnz' : w.heap.size ≠ w1.heap.size := by have := HW1.out; omega
   go_wp2_with fail
   go_roundg g
   case measure => omega
   case rel =>
    have hkeep : ∀ b,b ≠ w1.heap.size → ((((((wa.setCell ⟨w1.heap.size,0,none⟩ (.bool (fieldTo [a1,b1,c1] fs z (k + 1)).x.num.neg)).setCell ⟨w1.heap.size,1,none⟩ (.slice E1 nE1 cE1)).setCell ⟨w1.heap.size,2,none⟩ (.slice E2 nE2 cE2)).setCell ⟨w1.heap.size,3,none⟩ (.bool (fieldTo [a1,b1,c1] fs z (k + 1)).y.num.neg)).setCell ⟨w1.heap.size,4,none⟩ (.slice E4 nE4 cE4)).setCell ⟨w1.heap.size,5,none⟩ (.slice E5 nE5 cE5)).heap[b]? = wa.heap[b]? :=
     fun b h1 => heap_setCells w1.heap.size [.bool (fieldTo [a1,b1,c1] fs z (k + 1)).x.num.neg, .slice E1 nE1 cE1, .slice E2 nE2 cE2, .bool (fieldTo [a1,b1,c1] fs z (k + 1)).y.num.neg, .slice E4 nE4 cE4, .slice E5 nE5 cE5] wa 0 b h1
    have hw : w.heap.size ≤ w1.heap.size := by have := HW1.out; omega
    refine ⟨k + 1,E1,nE1,cE1,E2,nE2,cE2,E4,nE4,cE4,E5,nE5,cE5,r9,hk'.out,by go_num, ?_,⟨F9.out.keep fun b hb => hkeep b (R9.out b hb).2,R9.out⟩,((((((Below.next HB.out HBa.out).setCell (p := ⟨w1.heap.size,0,none⟩) hw _).setCell (p := ⟨w1.heap.size,1,none⟩) hw _).setCell (p := ⟨w1.heap.size,2,none⟩) hw _).setCell (p := ⟨w1.heap.size,3,none⟩) hw _).setCell (p := ⟨w1.heap.size,4,none⟩) hw _).setCell (p := ⟨w1.heap.size,5,none⟩) hw _,(hkeep (w.heap.size + 1) (by have := HW1.out; omega)).trans (heap_keep' hres.out HBa.out),by simp; omega,⟨?_, ?_, ?_, ?_, ?_, ?_⟩,⟨?_, ?_, ?_, ?_, ?_, ?_⟩,⟨?_, ?_, ?_, ?_, ?_, ?_⟩⟩
    ·exact A9.out.keep fun b hb => hkeep b (R9.out b hb).2
    all_goals go_simp
  ·obtain rfl : k = 3 := by omega
   have HFr := hid hfr.out.1
   have HFb := hid hfr.out.2
   obtain ⟨be0,of0,a2,L1,nL1,cL1,l1,L2,nL2,cL2,l2,L4,nL4,cL4,l4,L5,nL5,cL5,l5,hA0,hbl0,hx0,Le0,Le1,Le2,Le3,Le4,Le5,hg0⟩ := TPoint.elemA (HX.out.below hb) (show 0 < 3 by decide)
   obtain ⟨be1,of1,b2,Q1,nQ1,cQ1,q1,Q2,nQ2,cQ2,q2,Q4,nQ4,cQ4,q4,Q5,nQ5,cQ5,q5,hA1,hbl1,hx1,Qe0,Qe1,Qe2,Qe3,Qe4,Qe5,hg1⟩ := TPoint.elemA (HX.out.below hb) (show 1 < 3 by decide)
   obtain ⟨be2,of2,c2,R1,nR1,cR1,r1,R2,nR2,cR2,r2,R4,nR4,cR4,r4,R5,nR5,cR5,r5,hA2,hbl2,hx2,Re0,Re1,Re2,Re3,Re4,Re5,hg2⟩ := TPoint.elemA (HX.out.below hb) (show 2 < 3 by decide)
   subst hA0
   injection hA1 with hA1; injection hA1 with h1 h2 _; subst h1; subst h2
   injection hA2 with hA2; injection hA2 with h1 h2 _; subst h1; subst h2
   simp at hx0 hx1 hx2
   subst hx0; subst hx1; subst hx2
   simp at Le0 Le1 Le2 Le3 Le4 Le5 Qe0 Qe1 Qe2 Qe3 Qe4 Qe5 Re0 Re1 Re2 Re3 Re4 Re5
   have HAA := hid hg0; have HAB := hid hg1; have HAC := hid hg2
   have FP := hid (show pscale (rdiv (rint 1) (darea a1 b1 c1)) (fieldTo [a1,b1,c1] fs z 3) = fieldP a1 b1 c1 fs z from rfl)
   generalize fieldTo [a1,b1,c1] fs z 3 = out at *
   obtain ⟨y0,x0⟩ := box_cell hres.out (j := 0) rfl
   obtain ⟨y1,x1⟩ := box_cell hres.out (j := 1) rfl
   obtain ⟨y2,x2⟩ := box_cell hres.out (j := 2) rfl
   obtain ⟨y3,x3⟩ := box_cell hres.out (j := 3) rfl
   obtain ⟨y4,x4⟩ := box_cell hres.out (j := 4) rfl
   obtain ⟨y5,x5⟩ := box_cell hres.out (j := 5) rfl
   have hzr1 : w.heap.size + 1 < wr.heap.size := lt_of_get hres.out
   clear hk hkn hbl1 hbl2 hg0 hg1 hg2 hb hfr
   go_wp2_with fail
   refine wp_region_last (by simp) (by kernel_rfl) (by kernel_rfl) (by kernel_rfl) (by kernel_rfl) ?_
   dsimp only [List.dropLast,List.getLast,List.length]
   refine walkM_call (MP.agg (rint 1)) ?_ ?_
   ·intro yq zq wq hC hd
    obtain ⟨hcq,hfq⟩ := bcell hC
    simp at hd
    refine ⟨by go_simp; done, ?_⟩
    apply Exists.intro
    apply Exists.intro
    constructor
    ·go_simp
     exact ⟨rfl,rfl⟩
    ·exact gives_agg (impl_RatFromInt 1 wq (by constructor <;> decide))
   iterate 9
    apply walkM_eq
    case h =>
     intro yq zq wq hC hd
     obtain ⟨hcq,hfq⟩ := bcell hC
     simp at hd
     refine ⟨by go_simp; done, ?_⟩
     go_simp
     first | (go_ints; exact rfl) | (go_ints; rw [if_pos (by omega)]; try exact rfl) | exact rfl | (rw [if_pos (by omega)]; try exact rfl)
   refine walkM_call (MP.agg (darea a1 b1 c1)) ?_ ?_
   ·intro yq zq wq hC hd
    obtain ⟨hcq,hfq⟩ := bcell hC
    simp at hd
    refine ⟨by go_simp; done, ?_⟩
    apply Exists.intro
    apply Exists.intro
    constructor
    ·go_simp
     exact ⟨rfl,rfl⟩
    ·exact gives_agg (impl_DoubleArea _ _ _ a1 b1 c1 _ _ _ wq (HAA.out.below (by (with_reducible repeat first | exact Below.refl _ _ | (refine Below.set ?_ ?_ _; rotate_left; (simp <;> omega)) | refine Below.box_ ?_ _ | refine Below.next ?_ (by assumption)))) (HAB.out.below (by (with_reducible repeat first | exact Below.refl _ _ | (refine Below.set ?_ ?_ _; rotate_left; (simp <;> omega)) | refine Below.box_ ?_ _ | refine Below.next ?_ (by assumption)))) (HAC.out.below (by (with_reducible repeat first | exact Below.refl _ _ | (refine Below.set ?_ ?_ _; rotate_left; (simp <;> omega)) | refine Below.box_ ?_ _ | refine Below.next ?_ (by assumption)))))
   refine walkM_call (MP.agg (rdiv (rint 1) (darea a1 b1 c1))) ?_ ?_
   ·intro yq zq wq hC hd
    obtain ⟨hcq,hfq⟩ := bcell hC
    simp at hd
    refine ⟨by go_simp; done, ?_⟩
    apply Exists.intro
    apply Exists.intro
    constructor
    ·go_simp
     exact ⟨rfl,rfl⟩
    ·obtain ⟨t1,t2, _⟩ := hd
     exact gives_agg (impl_RatDiv _ _ (rint 1) (darea a1 b1 c1) _ _ wq t1.1 t2 ratOk_one HD1.out HD2.out)
   apply walkM_eq
   case h =>
    intro yq zq wq hC hd
    obtain ⟨hcq,hfq⟩ := bcell hC
    simp at hd
    refine ⟨by go_simp; done, ?_⟩
    go_simp
    first | (go_ints; exact rfl) | (go_ints; rw [if_pos (by omega)]; try exact rfl) | exact rfl | (rw [if_pos (by omega)]; try exact rfl)
   refine walkM_call (MP.agg (pscale (rdiv (rint 1) (darea a1 b1 c1)) out)) ?_ ?_
   ·intro yq zq wq hC hd
    obtain ⟨hcq,hfq⟩ := bcell hC
    simp at hd
    refine ⟨by go_simp; done, ?_⟩
    apply Exists.intro
    apply Exists.intro
    constructor
    ·go_simp
     exact ⟨rfl,rfl⟩
    ·obtain ⟨t1, _⟩ := hd
     exact gives_agg (impl_ScalePoint _ _ (rdiv (rint 1) (darea a1 b1 c1)) out _ _ wq t1.1 (hag.out.below (by (with_reducible repeat first | exact Below.refl _ _ | (refine Below.set ?_ ?_ _; rotate_left; (simp <;> omega)) | refine Below.box_ ?_ _ | refine Below.next ?_ (by assumption)))))
   intro yq zq wa hC hd hdis0
   have hdis := hid hdis0
   clear hdis0
   simp at hd
   have q13 := hd.2.2.2.2.2.2.2.2.2.2.2.2.2
   obtain ⟨⟨ha9,hf9⟩,hr9⟩ := q13
   rw [FP.out] at ha9
   obtain ⟨E1,nE1,cE1,u1,E2,nE2,cE2,u2,E4,nE4,cE4,u4,E5,nE5,cE5,u5,y13,hz13, _, _, _, _⟩ := TPoint.agg ha9
   rw [y13] at ha9
   have HBa := hid (show Below wr.heap.size wr wa by (with_reducible repeat first | exact Below.refl _ _ | (refine Below.set ?_ ?_ _; rotate_left; (simp <;> omega)) | refine Below.box_ ?_ _ | refine Below.next ?_ (by assumption)))
   have A9 := hid ha9; have F9 := hid hf9
   have R9 := hid (show ∀ b ∈ zq 13,w.heap.size + 2 ≤ b from fun b hb => by have := (hr9 b hb).1; (try simp at this); have := HW1.out; omega)
   obtain ⟨hc_wa,hf_wa⟩ := bcell HBa.out
   have hsz0 : w.heap.size + 1 < wa.heap.size := by have := HBa.out.size; omega
   have hbw := Below.next HB.out HBa.out
   generalize zq 13 = r9 at *
   clear hd hdis ha9 hf9 hr9 hz13 hC
   go_wp2
   refine bodyPost_ret (v := .agg #[.bool (fieldP a1 b1 c1 fs z).x.num.neg, .slice E1 nE1 cE1, .slice E2 nE2 cE2, .bool (fieldP a1 b1 c1 fs z).y.num.neg, .slice E4 nE4 cE4, .slice E5 nE5 cE5]) (by simp [results,Tryz.results40,go_sem, *]) rfl ?_
   refine agg_fin (lo := w.heap.size + 2) A9.out F9.out R9.out (by omega) ?_ ?_
   ·(with_reducible repeat first | exact Above.refl _ _ | (refine Above.set ?_ ?_ _; rotate_left; (simp <;> omega)) | refine Above.box ?_ _ | refine Above.below ?_ (by assumption))
   ·(with_reducible repeat first | exact Below.refl _ _ | (refine Below.set ?_ ?_ _; rotate_left; (simp <;> omega)) | refine Below.box_ ?_ _ | refine Below.next ?_ (by assumption))
end Go.Proofs.YtpfipnankjeokaaGreat.X

/- edgeFlows of the program. Written by gen_flw.py. -/
namespace Go.Proofs.YtpfipnankjeokaaGreat.X
open Go.RowKit Go.XB Go.XN
def negR (r : TRat) : TRat := ⟨encI (-numv r),r.den⟩
def flowOf (es : List TEdge) (fs : List TRat) (k a b : Int) : TRat := if (es.getD (bsAt es (ekey a b)) edge0).left = k then fs.getD (bsAt es (ekey a b)) zeroR else negR (fs.getD (bsAt es (ekey a b)) zeroR)
def flowsL (es : List TEdge) (fs : List TRat) (k : Int) (t : TTri) : List TRat := [flowOf es fs k t.b t.c,flowOf es fs k t.c t.a,flowOf es fs k t.a t.b]
def sidesIn (es : List TEdge) (t : TTri) : Prop := bsIn es (ekey t.b t.c) = true ∧ bsIn es (ekey t.c t.a) = true ∧ bsIn es (ekey t.a t.b) = true
theorem bsIn_lt {es : List TEdge} {e : TEdge} (h : bsIn es e = true) : bsAt es e < es.length := by
 unfold bsIn at h; simp at h; exact h.1
attribute [local go_sem] fillBy opAt deps depOf Region.wanted yielded
attribute [local simp] deps depOf MP.eq MP.agg MP.sl Facts
attribute [local go_sem] ix0 ix1 ix2
set_option linter.constructorNameAsVariable false
theorem rat_dat {w : World} {y : TRat} {u0 u1 u2 : Value} {b : List Nat} (h : Agg w (.agg #[u0,u1,u2]) y b) : Dat.at_ w [u0,u1,u2] y b := by
 obtain ⟨cs,he,hd⟩ := h
 have e2 : cs = [u0,u1,u2] := by have := congrArg (fun v => match v with | .agg c => c.toList | _ => []) he; simpa using this.symm
 rw [← e2]; exact hd
theorem infoRt : (Tryz.prog.info? 32).map (fun i => (i.zero,i.size,i.bytes)) = some (some (.agg #[.bool false, .slice none 0 0, .slice none 0 0]),3,56) := by kernel_rfl
set_option maxHeartbeats 1000000 in
theorem impl_negative' (v : Value) (x : TRat) (b : List Nat) (w : World) (hx : Agg w v x b) (ok : bigOkB x.num = true) :
  Calls Tryz.prog 92 #[v] w (fun e w' => ∃ v',e = .returned v' ∧ Agg w' v' (negR x) b ∧ Below w.heap.size w w') := by
 obtain ⟨A1,n1,c1,s1,A2,n2,c2,s2,rfl,rfl,hs1,hs2⟩ := TRat.agg hx
 have H1 := hid hs1; have H2 := hid hs2
 have E := hid (show negR x = ⟨⟨!x.num.neg && decide (0 < n1),x.num.mag⟩,x.den⟩ by
  unfold negR numv; rw [neg_enc ok, ← hs1.1]; cases x.num.mag <;> simp)
 clear hs1 hs2 hx
 go_enter Tryz.func92,Tryz.ntmps92
 go_wp2_with fail
 refine wp_region_last (by simp) (by kernel_rfl) (by kernel_rfl) (by kernel_rfl) (by kernel_rfl) ?_
 dsimp only [List.dropLast,List.getLast,List.length]
 iterate 7
  apply walkM_eq
  case h =>
   intro yq zq wq hC hd
   obtain ⟨hcq,hfq⟩ := bcell hC
   simp at hd
   refine ⟨by go_simp; done, ?_⟩
   go_simp
   first | (go_ints; exact rfl) | (go_ints; rw [if_pos (by omega)]; try exact rfl) | exact rfl | (rw [if_pos (by omega)]; try exact rfl)
 refine walkM_call (MP.eq (.agg #[.bool (!x.num.neg && decide (0 < n1)), .slice A1 n1 c1])) ?_ ?_
 ·intro yq zq wq hC hd
  obtain ⟨hcq,hfq⟩ := bcell hC
  simp at hd
  refine ⟨by go_simp; done, ?_⟩
  apply Exists.intro
  apply Exists.intro
  constructor
  ·go_simp
   exact ⟨rfl,rfl⟩
  ·exact gives_eq (impl_signed (!x.num.neg) A1 n1 c1 wq)
 iterate 3
  apply walkM_eq
  case h =>
   intro yq zq wq hC hd
   obtain ⟨hcq,hfq⟩ := bcell hC
   simp at hd
   refine ⟨by go_simp; done, ?_⟩
   go_simp
   first | (go_ints; exact rfl) | (go_ints; rw [if_pos (by omega)]; try exact rfl) | exact rfl | (rw [if_pos (by omega)]; try exact rfl)
 intro yq zq wa hC hd hdis0
 have hdis := hid hdis0
 clear hdis0
 simp at hd
 go_simp
 clear hd hdis
 obtain ⟨hc_wa,hf_wa⟩ := bcell hC
 have hz0_wa : w.heap.size < wa.heap.size := by have := hC.size; (try simp at this); omega
 have hz1_wa : w.heap.size + 1 < wa.heap.size := by have := hC.size; (try simp at this); omega
 go_wp2
 refine bodyPost_ret (v := .agg #[.bool (!x.num.neg && decide (0 < n1)), .slice A1 n1 c1, .slice A2 n2 c2]) (by simp [results,Tryz.results92,go_sem, *]) rfl ?_
 refine ⟨_,rfl, ?_,by (with_reducible repeat first | exact Below.refl _ _ | (refine Below.set ?_ ?_ _; rotate_left; (simp <;> omega)) | refine Below.box_ ?_ _ | refine Below.next ?_ (by assumption))⟩
 rw [E.out]
 exact TRat.mkAgg (x := ⟨⟨!x.num.neg && decide (0 < n1),x.num.mag⟩,x.den⟩) (Sl.below H1.out (by (with_reducible repeat first | exact Below.refl _ _ | (refine Below.set ?_ ?_ _; rotate_left; (simp <;> omega)) | refine Below.box_ ?_ _ | refine Below.next ?_ (by assumption)))) (Sl.below H2.out (by (with_reducible repeat first | exact Below.refl _ _ | (refine Below.set ?_ ?_ _; rotate_left; (simp <;> omega)) | refine Below.box_ ?_ _ | refine Below.next ?_ (by assumption))))

set_option maxHeartbeats 16000000 in
set_option maxRecDepth 10000 in
theorem impl_edgeFlows (v : Value) (m : TMesh) (b : List Nat) (B : Option Addr) (nf d : Nat) (fs : List TRat) (ds : List Nat) (k : Nat) (t : TTri) (w : World) (hx : Agg w v m b) (hm : m.triangles.length ≤ 48) (hf : Sl w B nf d fs ds) (hl : fs.length = (edgesL m.triangles).length)
  (hk : m.triangles[k]? = some t) (hs : sidesIn (edgesL m.triangles) t) (hok : fs.all ratOkB = true) :
  Calls Tryz.prog 41 #[v, .slice B nf d, .int .i64 k] w (GivesSl w (flowsL (edgesL m.triangles) fs k t)) := by
 have HX := hid hx; have HF := hid hf; have HM := hid hm; have HOK := hid hok; have HSI := hid hs
 obtain ⟨A0,n0,c0,s0,A1,n1,c1,s1,rfl,rfl,hs0,hs1⟩ := TMesh.agg hx
 have HNF := hid (show (edgesL m.triangles).length = nf by rw [← hl,hf.1])
 obtain ⟨es,hes⟩ : ∃ es,edgesL m.triangles = es := ⟨_,rfl⟩
 rw [hes] at HNF HSI ⊢
 have HES := hid hes
 have hnf : nf ≤ 144 := by rw [← HNF.out, ← hes]; unfold edgesL; have := edgesTo_len m.triangles m.triangles.length; omega
 have hnfi : (nf : Int) ≤ 144 := by omega
 have hkn : k < n1 := by rw [← hs1.1]; exact (List.getElem?_eq_some_iff.1 hk).1
 have hn48 : n1 ≤ 48 := by rw [← hs1.1]; exact hm
 obtain ⟨i0,hi,hz0,hz1,hz2⟩ := info_parts infoRt
 obtain ⟨be,of,t',hAA,hbl,hx1,e0,e1,e2,e3,e4,hag⟩ := TTri.elemA hs1 hkn
 subst hAA
 obtain rfl : t = t' := by rw [hk] at hx1; exact Option.some.inj hx1
 have HAG := hid hag
 have ITT := hid (show I64 t.a ∧ I64 t.b ∧ I64 t.c from by obtain ⟨_, _,i1,i2,i3, _, _⟩ := TTri.agg HAG.out; exact ⟨i1,i2,i3⟩)
 have hki : (k : Int) < n1 := by omega
 have hki0 : (0 : Int) ≤ k := by omega
 have hk48 : (n1 : Int) ≤ 48 := by omega
 clear hs0 hs1 hx hm hf hl hes hk hs hok hx1 hag
 go_enter Tryz.func41,Tryz.ntmps41
 go_wp2_with fail
 refine (impl_edges _ m _ (w.alloc (.cells #[.slice A0 n0 c0, .slice (some ⟨be,of,none⟩) n1 c1] 26)) (HX.out.below (Below.box _)) HM.out).mono ?_
 rintro _ w1 ⟨E,nE,cE,eb,rfl,hse,hoe,hb1⟩
 rw [HES.out] at hse
 obtain rfl : nf = nE := by rw [← HNF.out]; exact hse.1
 have HSE := hid hse
 obtain ⟨hc_w1,hf_w1⟩ := bcell hb1
 have hz0_w1 : w.heap.size < w1.heap.size := by have := hb1.size; (try simp at this); omega
 have HB1 := hid (show Below w.heap.size w w1 by (with_reducible repeat first | exact Below.refl _ _ | (refine Below.set ?_ ?_ _; rotate_left; (simp <;> omega)) | refine Below.box_ ?_ _ | refine Below.next ?_ (by assumption)))
 have hbl1 : be < w1.heap.size := by have := HB1.out.size; omega
 clear hse hoe
 go_wp2_with fail
 refine (impl_corners _ t _ w1 (HAG.out.below HB1.out)).mono ?_
 rintro _ w2 ⟨rfl,hb2⟩
 have HB12 := hid hb2
 have HB2 := hid (Below.next HB1.out hb2)
 have hzw2 : w.heap.size ≤ w2.heap.size := HB2.out.size
 clear hc_w1 hf_w1 hb1 hb2 e0 e1 e2 e3 e4
 go_wp2_with fail
 have RB := hid (show ((w2.alloc (.cells #[.int .i64 t.a, .int .i64 t.b, .int .i64 t.c] 75)).alloc (.cells #[] 32)).ownsRow (w2.heap.size + 1) 32 3 (.slice (some ⟨w2.heap.size + 1,0,none⟩) 0 0) 0 [] from by
  have := World.ownsRow_made (base := w2.heap.size + 1) (e := 32) (size := 3) (w2.alloc (.cells #[.int .i64 t.a, .int .i64 t.b, .int .i64 t.c] 75)) #[] 0 (by simp) (Nat.zero_le _) rfl
  rw [World.size_alloc] at this
  exact this)
 go_loopg [9,22] 3 (fun g s9 s wr => ∃ (i gB cap : Nat) (cells : List Value) (fss : List (List Nat)),i + g = 3 ∧ s = .int .i64 i ∧ s9 = .slice (some ⟨gB,0,none⟩) i cap ∧ Hid (wr.ownsRow (w2.heap.size + 1) 32 3 (.slice (some ⟨gB,0,none⟩) i cap) i cells) ∧ Hid (Filled wr cells ((flowsL es fs k t).take i) fss) ∧ Hid (((flowsL es fs k t).take i).length = i) ∧ Hid (Own w wr fss.flatten) ∧ Hid (gB ∉ fss.flatten) ∧ Below (w2.heap.size + 1) (w2.alloc (.cells #[.int .i64 t.a, .int .i64 t.b, .int .i64 t.c] 75)) wr)
 case atStart => exact ⟨0,w2.heap.size + 1,0, [], [],rfl,rfl,rfl,RB.out,Filled.nil _ _,rfl,Own.nil _ _,(show w2.heap.size + 1 ∉ ([] : List (List Nat)).flatten by simp),(Below.refl _ _).alloc (by simp) _⟩
 case round =>
  obtain ⟨i,gB,cap,cells,fss,hi3,rfl,rfl,hown,hfil,hlen,how,hnot,hb⟩ := hrel
  have HB := hid hb
  have HB2r := hid (show Below w2.heap.size w2 wr from Below.trans (Below.box _) (hb.mono (by omega)))
  have HBW := hid (Below.next HB2.out HB2r.out)
  have k0 : wr.cell? ⟨w2.heap.size,0,none⟩ = some (.int .i64 t.a) := (hb.cell (p := ⟨w2.heap.size,0,none⟩) (Nat.lt_succ_self _)).trans (by go_simp)
  have k1 : wr.cell? ⟨w2.heap.size,1,none⟩ = some (.int .i64 t.b) := (hb.cell (p := ⟨w2.heap.size,1,none⟩) (Nat.lt_succ_self _)).trans (by go_simp)
  have k2 : wr.cell? ⟨w2.heap.size,2,none⟩ = some (.int .i64 t.c) := (hb.cell (p := ⟨w2.heap.size,2,none⟩) (Nat.lt_succ_self _)).trans (by go_simp)
  have hwr : w2.heap.size < wr.heap.size := by have := hb.size; simp at this; omega
  obtain rfl | rfl | rfl | rfl : i = 0 ∨ i = 1 ∨ i = 2 ∨ i = 3 := by omega
  ·obtain rfl : gk = 2 + 1 := by omega
   obtain ⟨p,hp⟩ : ∃ p,bsAt es (ekey t.b t.c) = p := ⟨_,rfl⟩
   have P := hid hp
   have hpn : p < nf := by rw [← HNF.out, ← hp]; exact bsIn_lt HSI.out.1
   obtain ⟨bE,oE,x,hA1,hblE,hx1,x0,x1,x2,x3,hagx⟩ := TEdge.elemA (HSE.out.below (Below.next HB12.out HB2r.out)) hpn
   subst hA1
   obtain ⟨bf,off,r,F1,nF1,cF1,t1,F2,nF2,cF2,t2,hA2,hblf,hr1,g0,g1,g2,hagr⟩ := TRat.elemA (HF.out.below HBW.out) hpn
   subst hA2
   have HGR := hid hagr
   have hpi : (p : Int) < nf := by omega
   have ROK := hid (show ratOkB r = true from List.all_eq_true.1 HOK.out r (List.mem_of_getElem? hr1))
   have EX := hid (show es.getD p edge0 = x by rw [List.getD_eq_getElem?_getD,hx1]; rfl)
   have RX := hid (show fs.getD p zeroR = r by rw [List.getD_eq_getElem?_getD,hr1]; rfl)
   have C3 := hid (show 0 + 1 ≤ maxLen by decide)
   have C4 := hid (show (0 + 1) * 56 ≤ 140737488355328 by decide)
   have RV := hid (ratOkB_iff.1 ROK.out)
   clear hi3 hp hx1 hr1 hagx hagr hpn hb
   go_wp2_with fail
   refine wp_region_last (by simp) (by kernel_rfl) (by kernel_rfl) (by kernel_rfl) (by kernel_rfl) ?_
   dsimp only [List.dropLast,List.getLast,List.length]
   iterate 11
    apply walkM_eq
    case h =>
     intro yq zq wq hC hd
     obtain ⟨hcq,hfq⟩ := bcell hC
     simp at hd
     refine ⟨by go_simp; done, ?_⟩
     go_simp
     first | (go_ints; exact rfl) | (go_ints; rw [if_pos (by omega)]; try exact rfl) | exact rfl | (rw [if_pos (by omega)]; try exact rfl)
   refine walkM_call (MP.eq (.int .i64 p)) ?_ ?_
   ·intro yq zq wq hC hd
    obtain ⟨hcq,hfq⟩ := bcell hC
    simp at hd
    refine ⟨by go_simp; done, ?_⟩
    apply Exists.intro
    apply Exists.intro
    constructor
    ·go_simp
     exact ⟨rfl,rfl⟩
    ·exact gives_eq (by have C := impl_edgeIndex (some ⟨bE,oE,none⟩) nf cE es eb t.b t.c wq ((HSE.out.below (Below.next HB12.out HB2r.out)).below (by (with_reducible repeat first | exact Below.refl _ _ | (refine Below.set ?_ ?_ _; rotate_left; (simp <;> omega)) | refine Below.box_ ?_ _ | refine Below.next ?_ (by assumption)))) (by omega) ITT.out.2.1 ITT.out.2.2 HSI.out.1; rw [P.out] at C; exact C)
   intro yq zq w3 hC hd hdis0
   have hdis := hid hdis0
   clear hdis0
   simp at hd
   go_simp
   have HB3 := hid hC
   obtain ⟨hc_w3,hf_w3⟩ := bcell hC
   have hs3 := hC.size
   have hbf3 : bf < w3.heap.size := by omega
   have hbE3 : bE < w3.heap.size := by omega
   clear hd hdis hC
   go_wp2_with fail
   refine (impl_copyRat _ r _ w3 (HGR.out.below HB3.out) (by have := RV.out.num24; omega) (by have := RV.out.den24; omega)).mono ?_
   rintro _ w4 ⟨v4,s4,rfl,ha4,ho4,hb4⟩
   obtain ⟨E1,nE1,cE1,u1,E2,nE2,cE2,u2,rfl,z4, _, _⟩ := TRat.agg ha4
   have HA4 := hid ha4; have HO4 := hid ho4
   obtain ⟨hc_w4,hf_w4⟩ := bcell hb4
   have hs4 := hb4.size
   have hbE4 : bE < w4.heap.size := by omega
   have HB4 := hid (Below.next HB3.out hb4)
   have HR4 := hid (show ∀ b ∈ s4,wr.heap.size ≤ b from fun b hb => Nat.le_trans HB3.out.size (ho4.2 b hb).1)
   have HL4 := hid (show ∀ b ∈ s4,b < w4.heap.size from ha4.lt)
   clear ha4 ho4 hb4 z4
   have hwb : w2.heap.size + 1 ≤ wr.heap.size := by omega
   by_cases hleft : x.left = (k : Int)
   ·have FL := hid (show flowOf es fs k t.b t.c = r by unfold flowOf; rw [P.out,EX.out,if_pos hleft,RX.out])
    have hlb : (x.left == (k : Int)) = true := by simp [hleft]
    clear hleft
    go_upto_region 11 with fail
    have VB := hid (show Below wr.heap.size wr (w4.alloc (.cells #[.bool r.num.neg, .slice E1 nE1 cE1, .slice E2 nE2 cE2] 32)) from HB4.out.alloc HB4.out.size _)
    have VA := hid (HA4.out.below (Below.box (.cells #[.bool r.num.neg, .slice E1 nE1 cE1, .slice E2 nE2 cE2] 32)))
    have VF := hid (HO4.out.free.below (Below.box (.cells #[.bool r.num.neg, .slice E1 nE1 cE1, .slice E2 nE2 cE2] 32)))
    have c0 : (w4.alloc (.cells #[.bool r.num.neg, .slice E1 nE1 cE1, .slice E2 nE2 cE2] 32)).cell? ⟨w4.heap.size,0,none⟩ = some (.bool r.num.neg) := by go_simp
    have c1 : (w4.alloc (.cells #[.bool r.num.neg, .slice E1 nE1 cE1, .slice E2 nE2 cE2] 32)).cell? ⟨w4.heap.size,1,none⟩ = some (.slice E1 nE1 cE1) := by go_simp
    have c2 : (w4.alloc (.cells #[.bool r.num.neg, .slice E1 nE1 cE1, .slice E2 nE2 cE2] 32)).cell? ⟨w4.heap.size,2,none⟩ = some (.slice E2 nE2 cE2) := by go_simp
    have hV : w4.heap.size < (w4.alloc (.cells #[.bool r.num.neg, .slice E1 nE1 cE1, .slice E2 nE2 cE2] 32)).heap.size := by simp
    generalize (w4.alloc (.cells #[.bool r.num.neg, .slice E1 nE1 cE1, .slice E2 nE2 cE2] 32)) = V at *
    have VD := hid (rat_dat VA.out)
    have hownA := ownsRow_below hown.out VB.out
    have WV := hid (show w2.heap.size + 1 ≤ V.heap.size by have := VB.out.size; omega)
    go_wp2_with (at_builtin; refine wpList_push rfl _ _ 36 rfl (w2.heap.size + 1) 32 i0 (.agg #[.bool false, .slice none 0 0, .slice none 0 0]) 3 56 Tryz.underlying36 hi hz0 hz1 hz2 rfl (by decide) gB 0 cap cells (by go_simp; done) (hownA.alloc _) ⟨V.heap.size,0,none⟩ 1 1 [.bool r.num.neg, .slice E1 nE1 cE1, .slice E2 nE2 cE2] (by go_simp; done) rfl (block_cells (heap_alloc_new _ _)) (Dat.one VD.out) C3.out C4.out (le_alloc WV.out _) ?_; intro g' cap' w8 hown' hgrow' hor')
    have hgB := World.ownsRow.lt hown.out _ rfl
    have hgB2 : w2.heap.size + 1 ≤ gB := hgB.1
    have PP := hid (push_ownG (w := w) (wr := wr) (g' := g') hfil.out hlen.out hown.out.1 how.out hnot.out HBW.out hgB.2 (by omega) (VB.out.alloc VB.out.size _) (Dat.keep VD.out (fun g hg => Below.heap_alloc _ _ _ (Dat.lt VD.out g hg))) (VF.out.below (Below.box _)) HR4.out hgrow' hor')
    have OW := hid hown'
    have HB8 := hid ((HB.out.trans (((VB.out.alloc VB.out.size _).mono (by omega)))).grown hgrow' (le_alloc WV.out _) (fun k2 hk2 => by injection hk2 with h; omega))
    clear hown' hgrow' hor' hownA hgB hgB2
    generalize (cells ++ [.bool r.num.neg, .slice E1 nE1 cE1, .slice E2 nE2 cE2] : List Value) = cells2 at OW PP
    go_wp2_with fail
    go_roundg 2
    case measure => omega
    case rel => exact ⟨0 + 1,g',cap',cells2,(fss ++ [s4] : List (List Nat)),rfl,by go_num,rfl,OW.out,(show Filled w8 _ ((flowsL es fs k t).take (0 + 1)) _ by have h9 := PP.out.1; rw [← FL.out] at h9; exact h9),rfl,PP.out.2.1,PP.out.2.2.1,HB8.out⟩
   ·have FL := hid (show flowOf es fs k t.b t.c = negR r by unfold flowOf; rw [P.out,EX.out,if_neg hleft,RX.out])
    have hlb : (x.left == (k : Int)) = false := by simp [hleft]
    go_wp2_with fail
    refine (impl_negative' _ r _ (w4.alloc (.cells #[.bool r.num.neg, .slice E1 nE1 cE1, .slice E2 nE2 cE2] 32)) (HA4.out.below (Below.box _)) RV.out.num).mono ?_
    rintro _ w5 ⟨v5,rfl,ha5,hb5⟩
    obtain ⟨G1,nG1,cG1,y1,G2,nG2,cG2,y2,rfl,z5, _, _⟩ := TRat.agg ha5
    have HA5 := hid ha5
    have hs5 : w4.heap.size < w5.heap.size := by have := hb5.size; simp at this; omega
    have HB5 := hid (show Below w4.heap.size w4 w5 from Below.trans (Below.box _) (hb5.mono (by simp)))
    have d0 : w5.cell? ⟨w4.heap.size,0,none⟩ = some (.bool r.num.neg) := (hb5.cell (p := ⟨w4.heap.size,0,none⟩) (by simp)).trans (by go_simp)
    have d1 : w5.cell? ⟨w4.heap.size,1,none⟩ = some (.slice E1 nE1 cE1) := (hb5.cell (p := ⟨w4.heap.size,1,none⟩) (by simp)).trans (by go_simp)
    have d2 : w5.cell? ⟨w4.heap.size,2,none⟩ = some (.slice E2 nE2 cE2) := (hb5.cell (p := ⟨w4.heap.size,2,none⟩) (by simp)).trans (by go_simp)
    have f0 : w5.frozen? ⟨w4.heap.size,0,none⟩ = false := (hb5.frozen (p := ⟨w4.heap.size,0,none⟩) (by simp)).trans (by go_simp)
    have f1 : w5.frozen? ⟨w4.heap.size,1,none⟩ = false := (hb5.frozen (p := ⟨w4.heap.size,1,none⟩) (by simp)).trans (by go_simp)
    have f2 : w5.frozen? ⟨w4.heap.size,2,none⟩ = false := (hb5.frozen (p := ⟨w4.heap.size,2,none⟩) (by simp)).trans (by go_simp)
    have hkp : ∀ b ∈ s4,(((w5.setCell ⟨w4.heap.size,0,none⟩ (.bool (negR r).num.neg)).setCell ⟨w4.heap.size,1,none⟩ (.slice G1 nG1 cG1)).setCell ⟨w4.heap.size,2,none⟩ (.slice G2 nG2 cG2)).heap[b]? = w5.heap[b]? := fun b hb => heap_setCells w4.heap.size [.bool (negR r).num.neg, .slice G1 nG1 cG1, .slice G2 nG2 cG2] w5 0 b (by have := HL4.out b hb; omega)
    have VB := hid (show Below wr.heap.size wr (((w5.setCell ⟨w4.heap.size,0,none⟩ (.bool (negR r).num.neg)).setCell ⟨w4.heap.size,1,none⟩ (.slice G1 nG1 cG1)).setCell ⟨w4.heap.size,2,none⟩ (.slice G2 nG2 cG2)) from (((Below.next HB4.out HB5.out).setCell (p := ⟨w4.heap.size,0,none⟩) (show wr.heap.size ≤ w4.heap.size by omega) _).setCell (p := ⟨w4.heap.size,1,none⟩) (show wr.heap.size ≤ w4.heap.size by omega) _).setCell (p := ⟨w4.heap.size,2,none⟩) (show wr.heap.size ≤ w4.heap.size by omega) _)
    have VA := hid (HA5.out.keep hkp)
    have VF := hid ((HO4.out.free.below HB5.out).keep hkp)
    clear ha5 hb5 z5 hc_w3 hf_w3 hc_w4 hf_w4 hkp
    go_upto_region 11 with fail
    have c0 : (((w5.setCell ⟨w4.heap.size,0,none⟩ (.bool (negR r).num.neg)).setCell ⟨w4.heap.size,1,none⟩ (.slice G1 nG1 cG1)).setCell ⟨w4.heap.size,2,none⟩ (.slice G2 nG2 cG2)).cell? ⟨w4.heap.size,0,none⟩ = some (.bool (negR r).num.neg) := by go_simp
    have c1 : (((w5.setCell ⟨w4.heap.size,0,none⟩ (.bool (negR r).num.neg)).setCell ⟨w4.heap.size,1,none⟩ (.slice G1 nG1 cG1)).setCell ⟨w4.heap.size,2,none⟩ (.slice G2 nG2 cG2)).cell? ⟨w4.heap.size,1,none⟩ = some (.slice G1 nG1 cG1) := by go_simp
    have c2 : (((w5.setCell ⟨w4.heap.size,0,none⟩ (.bool (negR r).num.neg)).setCell ⟨w4.heap.size,1,none⟩ (.slice G1 nG1 cG1)).setCell ⟨w4.heap.size,2,none⟩ (.slice G2 nG2 cG2)).cell? ⟨w4.heap.size,2,none⟩ = some (.slice G2 nG2 cG2) := by go_simp
    have hV : w4.heap.size < (((w5.setCell ⟨w4.heap.size,0,none⟩ (.bool (negR r).num.neg)).setCell ⟨w4.heap.size,1,none⟩ (.slice G1 nG1 cG1)).setCell ⟨w4.heap.size,2,none⟩ (.slice G2 nG2 cG2)).heap.size := by simp; omega
    clear d0 d1 d2 f0 f1 f2
    generalize (((w5.setCell ⟨w4.heap.size,0,none⟩ (.bool (negR r).num.neg)).setCell ⟨w4.heap.size,1,none⟩ (.slice G1 nG1 cG1)).setCell ⟨w4.heap.size,2,none⟩ (.slice G2 nG2 cG2)) = V at *
    have VD := hid (rat_dat VA.out)
    have hownA := ownsRow_below hown.out VB.out
    have WV := hid (show w2.heap.size + 1 ≤ V.heap.size by have := VB.out.size; omega)
    go_wp2_with (at_builtin; refine wpList_push rfl _ _ 36 rfl (w2.heap.size + 1) 32 i0 (.agg #[.bool false, .slice none 0 0, .slice none 0 0]) 3 56 Tryz.underlying36 hi hz0 hz1 hz2 rfl (by decide) gB 0 cap cells (by go_simp; done) (hownA.alloc _) ⟨V.heap.size,0,none⟩ 1 1 [.bool (negR r).num.neg, .slice G1 nG1 cG1, .slice G2 nG2 cG2] (by go_simp; done) rfl (block_cells (heap_alloc_new _ _)) (Dat.one VD.out) C3.out C4.out (le_alloc WV.out _) ?_; intro g' cap' w8 hown' hgrow' hor')
    have hgB := World.ownsRow.lt hown.out _ rfl
    have hgB2 : w2.heap.size + 1 ≤ gB := hgB.1
    have PP := hid (push_ownG (w := w) (wr := wr) (g' := g') hfil.out hlen.out hown.out.1 how.out hnot.out HBW.out hgB.2 (by omega) (VB.out.alloc VB.out.size _) (Dat.keep VD.out (fun g hg => Below.heap_alloc _ _ _ (Dat.lt VD.out g hg))) (VF.out.below (Below.box _)) HR4.out hgrow' hor')
    have OW := hid hown'
    have HB8 := hid ((HB.out.trans (((VB.out.alloc VB.out.size _).mono (by omega)))).grown hgrow' (le_alloc WV.out _) (fun k2 hk2 => by injection hk2 with h; omega))
    clear hown' hgrow' hor' hownA hgB hgB2
    generalize (cells ++ [.bool (negR r).num.neg, .slice G1 nG1 cG1, .slice G2 nG2 cG2] : List Value) = cells2 at OW PP
    go_wp2_with fail
    go_roundg 2
    case measure => omega
    case rel => exact ⟨0 + 1,g',cap',cells2,(fss ++ [s4] : List (List Nat)),rfl,by go_num,rfl,OW.out,(show Filled w8 _ ((flowsL es fs k t).take (0 + 1)) _ by have h9 := PP.out.1; rw [← FL.out] at h9; exact h9),rfl,PP.out.2.1,PP.out.2.2.1,HB8.out⟩
  ·obtain rfl : gk = 1 + 1 := by omega
   obtain ⟨p,hp⟩ : ∃ p,bsAt es (ekey t.c t.a) = p := ⟨_,rfl⟩
   have P := hid hp
   have hpn : p < nf := by rw [← HNF.out, ← hp]; exact bsIn_lt HSI.out.2.1
   obtain ⟨bE,oE,x,hA1,hblE,hx1,x0,x1,x2,x3,hagx⟩ := TEdge.elemA (HSE.out.below (Below.next HB12.out HB2r.out)) hpn
   subst hA1
   obtain ⟨bf,off,r,F1,nF1,cF1,t1,F2,nF2,cF2,t2,hA2,hblf,hr1,g0,g1,g2,hagr⟩ := TRat.elemA (HF.out.below HBW.out) hpn
   subst hA2
   have HGR := hid hagr
   have hpi : (p : Int) < nf := by omega
   have ROK := hid (show ratOkB r = true from List.all_eq_true.1 HOK.out r (List.mem_of_getElem? hr1))
   have EX := hid (show es.getD p edge0 = x by rw [List.getD_eq_getElem?_getD,hx1]; rfl)
   have RX := hid (show fs.getD p zeroR = r by rw [List.getD_eq_getElem?_getD,hr1]; rfl)
   have C3 := hid (show 1 + 1 ≤ maxLen by decide)
   have C4 := hid (show (1 + 1) * 56 ≤ 140737488355328 by decide)
   have RV := hid (ratOkB_iff.1 ROK.out)
   clear hi3 hp hx1 hr1 hagx hagr hpn hb
   go_wp2_with fail
   refine wp_region_last (by simp) (by kernel_rfl) (by kernel_rfl) (by kernel_rfl) (by kernel_rfl) ?_
   dsimp only [List.dropLast,List.getLast,List.length]
   iterate 11
    apply walkM_eq
    case h =>
     intro yq zq wq hC hd
     obtain ⟨hcq,hfq⟩ := bcell hC
     simp at hd
     refine ⟨by go_simp; done, ?_⟩
     go_simp
     first | (go_ints; exact rfl) | (go_ints; rw [if_pos (by omega)]; try exact rfl) | exact rfl | (rw [if_pos (by omega)]; try exact rfl)
   refine walkM_call (MP.eq (.int .i64 p)) ?_ ?_
   ·intro yq zq wq hC hd
    obtain ⟨hcq,hfq⟩ := bcell hC
    simp at hd
    refine ⟨by go_simp; done, ?_⟩
    apply Exists.intro
    apply Exists.intro
    constructor
    ·go_simp
     exact ⟨rfl,rfl⟩
    ·exact gives_eq (by have C := impl_edgeIndex (some ⟨bE,oE,none⟩) nf cE es eb t.c t.a wq ((HSE.out.below (Below.next HB12.out HB2r.out)).below (by (with_reducible repeat first | exact Below.refl _ _ | (refine Below.set ?_ ?_ _; rotate_left; (simp <;> omega)) | refine Below.box_ ?_ _ | refine Below.next ?_ (by assumption)))) (by omega) ITT.out.2.2 ITT.out.1 HSI.out.2.1; rw [P.out] at C; exact C)
   intro yq zq w3 hC hd hdis0
   have hdis := hid hdis0
   clear hdis0
   simp at hd
   go_simp
   have HB3 := hid hC
   obtain ⟨hc_w3,hf_w3⟩ := bcell hC
   have hs3 := hC.size
   have hbf3 : bf < w3.heap.size := by omega
   have hbE3 : bE < w3.heap.size := by omega
   clear hd hdis hC
   go_wp2_with fail
   refine (impl_copyRat _ r _ w3 (HGR.out.below HB3.out) (by have := RV.out.num24; omega) (by have := RV.out.den24; omega)).mono ?_
   rintro _ w4 ⟨v4,s4,rfl,ha4,ho4,hb4⟩
   obtain ⟨E1,nE1,cE1,u1,E2,nE2,cE2,u2,rfl,z4, _, _⟩ := TRat.agg ha4
   have HA4 := hid ha4; have HO4 := hid ho4
   obtain ⟨hc_w4,hf_w4⟩ := bcell hb4
   have hs4 := hb4.size
   have hbE4 : bE < w4.heap.size := by omega
   have HB4 := hid (Below.next HB3.out hb4)
   have HR4 := hid (show ∀ b ∈ s4,wr.heap.size ≤ b from fun b hb => Nat.le_trans HB3.out.size (ho4.2 b hb).1)
   have HL4 := hid (show ∀ b ∈ s4,b < w4.heap.size from ha4.lt)
   clear ha4 ho4 hb4 z4
   have hwb : w2.heap.size + 1 ≤ wr.heap.size := by omega
   by_cases hleft : x.left = (k : Int)
   ·have FL := hid (show flowOf es fs k t.c t.a = r by unfold flowOf; rw [P.out,EX.out,if_pos hleft,RX.out])
    have hlb : (x.left == (k : Int)) = true := by simp [hleft]
    clear hleft
    go_upto_region 11 with fail
    have VB := hid (show Below wr.heap.size wr (w4.alloc (.cells #[.bool r.num.neg, .slice E1 nE1 cE1, .slice E2 nE2 cE2] 32)) from HB4.out.alloc HB4.out.size _)
    have VA := hid (HA4.out.below (Below.box (.cells #[.bool r.num.neg, .slice E1 nE1 cE1, .slice E2 nE2 cE2] 32)))
    have VF := hid (HO4.out.free.below (Below.box (.cells #[.bool r.num.neg, .slice E1 nE1 cE1, .slice E2 nE2 cE2] 32)))
    have c0 : (w4.alloc (.cells #[.bool r.num.neg, .slice E1 nE1 cE1, .slice E2 nE2 cE2] 32)).cell? ⟨w4.heap.size,0,none⟩ = some (.bool r.num.neg) := by go_simp
    have c1 : (w4.alloc (.cells #[.bool r.num.neg, .slice E1 nE1 cE1, .slice E2 nE2 cE2] 32)).cell? ⟨w4.heap.size,1,none⟩ = some (.slice E1 nE1 cE1) := by go_simp
    have c2 : (w4.alloc (.cells #[.bool r.num.neg, .slice E1 nE1 cE1, .slice E2 nE2 cE2] 32)).cell? ⟨w4.heap.size,2,none⟩ = some (.slice E2 nE2 cE2) := by go_simp
    have hV : w4.heap.size < (w4.alloc (.cells #[.bool r.num.neg, .slice E1 nE1 cE1, .slice E2 nE2 cE2] 32)).heap.size := by simp
    generalize (w4.alloc (.cells #[.bool r.num.neg, .slice E1 nE1 cE1, .slice E2 nE2 cE2] 32)) = V at *
    have VD := hid (rat_dat VA.out)
    have hownA := ownsRow_below hown.out VB.out
    have WV := hid (show w2.heap.size + 1 ≤ V.heap.size by have := VB.out.size; omega)
    go_wp2_with (at_builtin; refine wpList_push rfl _ _ 36 rfl (w2.heap.size + 1) 32 i0 (.agg #[.bool false, .slice none 0 0, .slice none 0 0]) 3 56 Tryz.underlying36 hi hz0 hz1 hz2 rfl (by decide) gB 1 cap cells (by go_simp; done) (hownA.alloc _) ⟨V.heap.size,0,none⟩ 1 1 [.bool r.num.neg, .slice E1 nE1 cE1, .slice E2 nE2 cE2] (by go_simp; done) rfl (block_cells (heap_alloc_new _ _)) (Dat.one VD.out) C3.out C4.out (le_alloc WV.out _) ?_; intro g' cap' w8 hown' hgrow' hor')
    have hgB := World.ownsRow.lt hown.out _ rfl
    have hgB2 : w2.heap.size + 1 ≤ gB := hgB.1
    have PP := hid (push_ownG (w := w) (wr := wr) (g' := g') hfil.out hlen.out hown.out.1 how.out hnot.out HBW.out hgB.2 (by omega) (VB.out.alloc VB.out.size _) (Dat.keep VD.out (fun g hg => Below.heap_alloc _ _ _ (Dat.lt VD.out g hg))) (VF.out.below (Below.box _)) HR4.out hgrow' hor')
    have OW := hid hown'
    have HB8 := hid ((HB.out.trans (((VB.out.alloc VB.out.size _).mono (by omega)))).grown hgrow' (le_alloc WV.out _) (fun k2 hk2 => by injection hk2 with h; omega))
    clear hown' hgrow' hor' hownA hgB hgB2
    generalize (cells ++ [.bool r.num.neg, .slice E1 nE1 cE1, .slice E2 nE2 cE2] : List Value) = cells2 at OW PP
    go_wp2_with fail
    go_roundg 1
    case measure => omega
    case rel => exact ⟨1 + 1,g',cap',cells2,(fss ++ [s4] : List (List Nat)),rfl,by go_num,rfl,OW.out,(show Filled w8 _ ((flowsL es fs k t).take (1 + 1)) _ by have h9 := PP.out.1; rw [← FL.out] at h9; exact h9),rfl,PP.out.2.1,PP.out.2.2.1,HB8.out⟩
   ·have FL := hid (show flowOf es fs k t.c t.a = negR r by unfold flowOf; rw [P.out,EX.out,if_neg hleft,RX.out])
    have hlb : (x.left == (k : Int)) = false := by simp [hleft]
    go_wp2_with fail
    refine (impl_negative' _ r _ (w4.alloc (.cells #[.bool r.num.neg, .slice E1 nE1 cE1, .slice E2 nE2 cE2] 32)) (HA4.out.below (Below.box _)) RV.out.num).mono ?_
    rintro _ w5 ⟨v5,rfl,ha5,hb5⟩
    obtain ⟨G1,nG1,cG1,y1,G2,nG2,cG2,y2,rfl,z5, _, _⟩ := TRat.agg ha5
    have HA5 := hid ha5
    have hs5 : w4.heap.size < w5.heap.size := by have := hb5.size; simp at this; omega
    have HB5 := hid (show Below w4.heap.size w4 w5 from Below.trans (Below.box _) (hb5.mono (by simp)))
    have d0 : w5.cell? ⟨w4.heap.size,0,none⟩ = some (.bool r.num.neg) := (hb5.cell (p := ⟨w4.heap.size,0,none⟩) (by simp)).trans (by go_simp)
    have d1 : w5.cell? ⟨w4.heap.size,1,none⟩ = some (.slice E1 nE1 cE1) := (hb5.cell (p := ⟨w4.heap.size,1,none⟩) (by simp)).trans (by go_simp)
    have d2 : w5.cell? ⟨w4.heap.size,2,none⟩ = some (.slice E2 nE2 cE2) := (hb5.cell (p := ⟨w4.heap.size,2,none⟩) (by simp)).trans (by go_simp)
    have f0 : w5.frozen? ⟨w4.heap.size,0,none⟩ = false := (hb5.frozen (p := ⟨w4.heap.size,0,none⟩) (by simp)).trans (by go_simp)
    have f1 : w5.frozen? ⟨w4.heap.size,1,none⟩ = false := (hb5.frozen (p := ⟨w4.heap.size,1,none⟩) (by simp)).trans (by go_simp)
    have f2 : w5.frozen? ⟨w4.heap.size,2,none⟩ = false := (hb5.frozen (p := ⟨w4.heap.size,2,none⟩) (by simp)).trans (by go_simp)
    have hkp : ∀ b ∈ s4,(((w5.setCell ⟨w4.heap.size,0,none⟩ (.bool (negR r).num.neg)).setCell ⟨w4.heap.size,1,none⟩ (.slice G1 nG1 cG1)).setCell ⟨w4.heap.size,2,none⟩ (.slice G2 nG2 cG2)).heap[b]? = w5.heap[b]? := fun b hb => heap_setCells w4.heap.size [.bool (negR r).num.neg, .slice G1 nG1 cG1, .slice G2 nG2 cG2] w5 0 b (by have := HL4.out b hb; omega)
    have VB := hid (show Below wr.heap.size wr (((w5.setCell ⟨w4.heap.size,0,none⟩ (.bool (negR r).num.neg)).setCell ⟨w4.heap.size,1,none⟩ (.slice G1 nG1 cG1)).setCell ⟨w4.heap.size,2,none⟩ (.slice G2 nG2 cG2)) from (((Below.next HB4.out HB5.out).setCell (p := ⟨w4.heap.size,0,none⟩) (show wr.heap.size ≤ w4.heap.size by omega) _).setCell (p := ⟨w4.heap.size,1,none⟩) (show wr.heap.size ≤ w4.heap.size by omega) _).setCell (p := ⟨w4.heap.size,2,none⟩) (show wr.heap.size ≤ w4.heap.size by omega) _)
    have VA := hid (HA5.out.keep hkp)
    have VF := hid ((HO4.out.free.below HB5.out).keep hkp)
    clear ha5 hb5 z5 hc_w3 hf_w3 hc_w4 hf_w4 hkp
    go_upto_region 11 with fail
    have c0 : (((w5.setCell ⟨w4.heap.size,0,none⟩ (.bool (negR r).num.neg)).setCell ⟨w4.heap.size,1,none⟩ (.slice G1 nG1 cG1)).setCell ⟨w4.heap.size,2,none⟩ (.slice G2 nG2 cG2)).cell? ⟨w4.heap.size,0,none⟩ = some (.bool (negR r).num.neg) := by go_simp
    have c1 : (((w5.setCell ⟨w4.heap.size,0,none⟩ (.bool (negR r).num.neg)).setCell ⟨w4.heap.size,1,none⟩ (.slice G1 nG1 cG1)).setCell ⟨w4.heap.size,2,none⟩ (.slice G2 nG2 cG2)).cell? ⟨w4.heap.size,1,none⟩ = some (.slice G1 nG1 cG1) := by go_simp
    have c2 : (((w5.setCell ⟨w4.heap.size,0,none⟩ (.bool (negR r).num.neg)).setCell ⟨w4.heap.size,1,none⟩ (.slice G1 nG1 cG1)).setCell ⟨w4.heap.size,2,none⟩ (.slice G2 nG2 cG2)).cell? ⟨w4.heap.size,2,none⟩ = some (.slice G2 nG2 cG2) := by go_simp
    have hV : w4.heap.size < (((w5.setCell ⟨w4.heap.size,0,none⟩ (.bool (negR r).num.neg)).setCell ⟨w4.heap.size,1,none⟩ (.slice G1 nG1 cG1)).setCell ⟨w4.heap.size,2,none⟩ (.slice G2 nG2 cG2)).heap.size := by simp; omega
    clear d0 d1 d2 f0 f1 f2
    generalize (((w5.setCell ⟨w4.heap.size,0,none⟩ (.bool (negR r).num.neg)).setCell ⟨w4.heap.size,1,none⟩ (.slice G1 nG1 cG1)).setCell ⟨w4.heap.size,2,none⟩ (.slice G2 nG2 cG2)) = V at *
    have VD := hid (rat_dat VA.out)
    have hownA := ownsRow_below hown.out VB.out
    have WV := hid (show w2.heap.size + 1 ≤ V.heap.size by have := VB.out.size; omega)
    go_wp2_with (at_builtin; refine wpList_push rfl _ _ 36 rfl (w2.heap.size + 1) 32 i0 (.agg #[.bool false, .slice none 0 0, .slice none 0 0]) 3 56 Tryz.underlying36 hi hz0 hz1 hz2 rfl (by decide) gB 1 cap cells (by go_simp; done) (hownA.alloc _) ⟨V.heap.size,0,none⟩ 1 1 [.bool (negR r).num.neg, .slice G1 nG1 cG1, .slice G2 nG2 cG2] (by go_simp; done) rfl (block_cells (heap_alloc_new _ _)) (Dat.one VD.out) C3.out C4.out (le_alloc WV.out _) ?_; intro g' cap' w8 hown' hgrow' hor')
    have hgB := World.ownsRow.lt hown.out _ rfl
    have hgB2 : w2.heap.size + 1 ≤ gB := hgB.1
    have PP := hid (push_ownG (w := w) (wr := wr) (g' := g') hfil.out hlen.out hown.out.1 how.out hnot.out HBW.out hgB.2 (by omega) (VB.out.alloc VB.out.size _) (Dat.keep VD.out (fun g hg => Below.heap_alloc _ _ _ (Dat.lt VD.out g hg))) (VF.out.below (Below.box _)) HR4.out hgrow' hor')
    have OW := hid hown'
    have HB8 := hid ((HB.out.trans (((VB.out.alloc VB.out.size _).mono (by omega)))).grown hgrow' (le_alloc WV.out _) (fun k2 hk2 => by injection hk2 with h; omega))
    clear hown' hgrow' hor' hownA hgB hgB2
    generalize (cells ++ [.bool (negR r).num.neg, .slice G1 nG1 cG1, .slice G2 nG2 cG2] : List Value) = cells2 at OW PP
    go_wp2_with fail
    go_roundg 1
    case measure => omega
    case rel => exact ⟨1 + 1,g',cap',cells2,(fss ++ [s4] : List (List Nat)),rfl,by go_num,rfl,OW.out,(show Filled w8 _ ((flowsL es fs k t).take (1 + 1)) _ by have h9 := PP.out.1; rw [← FL.out] at h9; exact h9),rfl,PP.out.2.1,PP.out.2.2.1,HB8.out⟩
  ·obtain rfl : gk = 0 + 1 := by omega
   obtain ⟨p,hp⟩ : ∃ p,bsAt es (ekey t.a t.b) = p := ⟨_,rfl⟩
   have P := hid hp
   have hpn : p < nf := by rw [← HNF.out, ← hp]; exact bsIn_lt HSI.out.2.2
   obtain ⟨bE,oE,x,hA1,hblE,hx1,x0,x1,x2,x3,hagx⟩ := TEdge.elemA (HSE.out.below (Below.next HB12.out HB2r.out)) hpn
   subst hA1
   obtain ⟨bf,off,r,F1,nF1,cF1,t1,F2,nF2,cF2,t2,hA2,hblf,hr1,g0,g1,g2,hagr⟩ := TRat.elemA (HF.out.below HBW.out) hpn
   subst hA2
   have HGR := hid hagr
   have hpi : (p : Int) < nf := by omega
   have ROK := hid (show ratOkB r = true from List.all_eq_true.1 HOK.out r (List.mem_of_getElem? hr1))
   have EX := hid (show es.getD p edge0 = x by rw [List.getD_eq_getElem?_getD,hx1]; rfl)
   have RX := hid (show fs.getD p zeroR = r by rw [List.getD_eq_getElem?_getD,hr1]; rfl)
   have C3 := hid (show 2 + 1 ≤ maxLen by decide)
   have C4 := hid (show (2 + 1) * 56 ≤ 140737488355328 by decide)
   have RV := hid (ratOkB_iff.1 ROK.out)
   clear hi3 hp hx1 hr1 hagx hagr hpn hb
   go_wp2_with fail
   refine wp_region_last (by simp) (by kernel_rfl) (by kernel_rfl) (by kernel_rfl) (by kernel_rfl) ?_
   dsimp only [List.dropLast,List.getLast,List.length]
   iterate 11
    apply walkM_eq
    case h =>
     intro yq zq wq hC hd
     obtain ⟨hcq,hfq⟩ := bcell hC
     simp at hd
     refine ⟨by go_simp; done, ?_⟩
     go_simp
     first | (go_ints; exact rfl) | (go_ints; rw [if_pos (by omega)]; try exact rfl) | exact rfl | (rw [if_pos (by omega)]; try exact rfl)
   refine walkM_call (MP.eq (.int .i64 p)) ?_ ?_
   ·intro yq zq wq hC hd
    obtain ⟨hcq,hfq⟩ := bcell hC
    simp at hd
    refine ⟨by go_simp; done, ?_⟩
    apply Exists.intro
    apply Exists.intro
    constructor
    ·go_simp
     exact ⟨rfl,rfl⟩
    ·exact gives_eq (by have C := impl_edgeIndex (some ⟨bE,oE,none⟩) nf cE es eb t.a t.b wq ((HSE.out.below (Below.next HB12.out HB2r.out)).below (by (with_reducible repeat first | exact Below.refl _ _ | (refine Below.set ?_ ?_ _; rotate_left; (simp <;> omega)) | refine Below.box_ ?_ _ | refine Below.next ?_ (by assumption)))) (by omega) ITT.out.1 ITT.out.2.1 HSI.out.2.2; rw [P.out] at C; exact C)
   intro yq zq w3 hC hd hdis0
   have hdis := hid hdis0
   clear hdis0
   simp at hd
   go_simp
   have HB3 := hid hC
   obtain ⟨hc_w3,hf_w3⟩ := bcell hC
   have hs3 := hC.size
   have hbf3 : bf < w3.heap.size := by omega
   have hbE3 : bE < w3.heap.size := by omega
   clear hd hdis hC
   go_wp2_with fail
   refine (impl_copyRat _ r _ w3 (HGR.out.below HB3.out) (by have := RV.out.num24; omega) (by have := RV.out.den24; omega)).mono ?_
   rintro _ w4 ⟨v4,s4,rfl,ha4,ho4,hb4⟩
   obtain ⟨E1,nE1,cE1,u1,E2,nE2,cE2,u2,rfl,z4, _, _⟩ := TRat.agg ha4
   have HA4 := hid ha4; have HO4 := hid ho4
   obtain ⟨hc_w4,hf_w4⟩ := bcell hb4
   have hs4 := hb4.size
   have hbE4 : bE < w4.heap.size := by omega
   have HB4 := hid (Below.next HB3.out hb4)
   have HR4 := hid (show ∀ b ∈ s4,wr.heap.size ≤ b from fun b hb => Nat.le_trans HB3.out.size (ho4.2 b hb).1)
   have HL4 := hid (show ∀ b ∈ s4,b < w4.heap.size from ha4.lt)
   clear ha4 ho4 hb4 z4
   have hwb : w2.heap.size + 1 ≤ wr.heap.size := by omega
   by_cases hleft : x.left = (k : Int)
   ·have FL := hid (show flowOf es fs k t.a t.b = r by unfold flowOf; rw [P.out,EX.out,if_pos hleft,RX.out])
    have hlb : (x.left == (k : Int)) = true := by simp [hleft]
    clear hleft
    go_upto_region 11 with fail
    have VB := hid (show Below wr.heap.size wr (w4.alloc (.cells #[.bool r.num.neg, .slice E1 nE1 cE1, .slice E2 nE2 cE2] 32)) from HB4.out.alloc HB4.out.size _)
    have VA := hid (HA4.out.below (Below.box (.cells #[.bool r.num.neg, .slice E1 nE1 cE1, .slice E2 nE2 cE2] 32)))
    have VF := hid (HO4.out.free.below (Below.box (.cells #[.bool r.num.neg, .slice E1 nE1 cE1, .slice E2 nE2 cE2] 32)))
    have c0 : (w4.alloc (.cells #[.bool r.num.neg, .slice E1 nE1 cE1, .slice E2 nE2 cE2] 32)).cell? ⟨w4.heap.size,0,none⟩ = some (.bool r.num.neg) := by go_simp
    have c1 : (w4.alloc (.cells #[.bool r.num.neg, .slice E1 nE1 cE1, .slice E2 nE2 cE2] 32)).cell? ⟨w4.heap.size,1,none⟩ = some (.slice E1 nE1 cE1) := by go_simp
    have c2 : (w4.alloc (.cells #[.bool r.num.neg, .slice E1 nE1 cE1, .slice E2 nE2 cE2] 32)).cell? ⟨w4.heap.size,2,none⟩ = some (.slice E2 nE2 cE2) := by go_simp
    have hV : w4.heap.size < (w4.alloc (.cells #[.bool r.num.neg, .slice E1 nE1 cE1, .slice E2 nE2 cE2] 32)).heap.size := by simp
    generalize (w4.alloc (.cells #[.bool r.num.neg, .slice E1 nE1 cE1, .slice E2 nE2 cE2] 32)) = V at *
    have VD := hid (rat_dat VA.out)
    have hownA := ownsRow_below hown.out VB.out
    have WV := hid (show w2.heap.size + 1 ≤ V.heap.size by have := VB.out.size; omega)
    go_wp2_with (at_builtin; refine wpList_push rfl _ _ 36 rfl (w2.heap.size + 1) 32 i0 (.agg #[.bool false, .slice none 0 0, .slice none 0 0]) 3 56 Tryz.underlying36 hi hz0 hz1 hz2 rfl (by decide) gB 2 cap cells (by go_simp; done) (hownA.alloc _) ⟨V.heap.size,0,none⟩ 1 1 [.bool r.num.neg, .slice E1 nE1 cE1, .slice E2 nE2 cE2] (by go_simp; done) rfl (block_cells (heap_alloc_new _ _)) (Dat.one VD.out) C3.out C4.out (le_alloc WV.out _) ?_; intro g' cap' w8 hown' hgrow' hor')
    have hgB := World.ownsRow.lt hown.out _ rfl
    have hgB2 : w2.heap.size + 1 ≤ gB := hgB.1
    have PP := hid (push_ownG (w := w) (wr := wr) (g' := g') hfil.out hlen.out hown.out.1 how.out hnot.out HBW.out hgB.2 (by omega) (VB.out.alloc VB.out.size _) (Dat.keep VD.out (fun g hg => Below.heap_alloc _ _ _ (Dat.lt VD.out g hg))) (VF.out.below (Below.box _)) HR4.out hgrow' hor')
    have OW := hid hown'
    have HB8 := hid ((HB.out.trans (((VB.out.alloc VB.out.size _).mono (by omega)))).grown hgrow' (le_alloc WV.out _) (fun k2 hk2 => by injection hk2 with h; omega))
    clear hown' hgrow' hor' hownA hgB hgB2
    generalize (cells ++ [.bool r.num.neg, .slice E1 nE1 cE1, .slice E2 nE2 cE2] : List Value) = cells2 at OW PP
    go_wp2_with fail
    go_roundg 0
    case measure => omega
    case rel => exact ⟨2 + 1,g',cap',cells2,(fss ++ [s4] : List (List Nat)),rfl,by go_num,rfl,OW.out,(show Filled w8 _ ((flowsL es fs k t).take (2 + 1)) _ by have h9 := PP.out.1; rw [← FL.out] at h9; exact h9),rfl,PP.out.2.1,PP.out.2.2.1,HB8.out⟩
   ·have FL := hid (show flowOf es fs k t.a t.b = negR r by unfold flowOf; rw [P.out,EX.out,if_neg hleft,RX.out])
    have hlb : (x.left == (k : Int)) = false := by simp [hleft]
    go_wp2_with fail
    refine (impl_negative' _ r _ (w4.alloc (.cells #[.bool r.num.neg, .slice E1 nE1 cE1, .slice E2 nE2 cE2] 32)) (HA4.out.below (Below.box _)) RV.out.num).mono ?_
    rintro _ w5 ⟨v5,rfl,ha5,hb5⟩
    obtain ⟨G1,nG1,cG1,y1,G2,nG2,cG2,y2,rfl,z5, _, _⟩ := TRat.agg ha5
    have HA5 := hid ha5
    have hs5 : w4.heap.size < w5.heap.size := by have := hb5.size; simp at this; omega
    have HB5 := hid (show Below w4.heap.size w4 w5 from Below.trans (Below.box _) (hb5.mono (by simp)))
    have d0 : w5.cell? ⟨w4.heap.size,0,none⟩ = some (.bool r.num.neg) := (hb5.cell (p := ⟨w4.heap.size,0,none⟩) (by simp)).trans (by go_simp)
    have d1 : w5.cell? ⟨w4.heap.size,1,none⟩ = some (.slice E1 nE1 cE1) := (hb5.cell (p := ⟨w4.heap.size,1,none⟩) (by simp)).trans (by go_simp)
    have d2 : w5.cell? ⟨w4.heap.size,2,none⟩ = some (.slice E2 nE2 cE2) := (hb5.cell (p := ⟨w4.heap.size,2,none⟩) (by simp)).trans (by go_simp)
    have f0 : w5.frozen? ⟨w4.heap.size,0,none⟩ = false := (hb5.frozen (p := ⟨w4.heap.size,0,none⟩) (by simp)).trans (by go_simp)
    have f1 : w5.frozen? ⟨w4.heap.size,1,none⟩ = false := (hb5.frozen (p := ⟨w4.heap.size,1,none⟩) (by simp)).trans (by go_simp)
    have f2 : w5.frozen? ⟨w4.heap.size,2,none⟩ = false := (hb5.frozen (p := ⟨w4.heap.size,2,none⟩) (by simp)).trans (by go_simp)
    have hkp : ∀ b ∈ s4,(((w5.setCell ⟨w4.heap.size,0,none⟩ (.bool (negR r).num.neg)).setCell ⟨w4.heap.size,1,none⟩ (.slice G1 nG1 cG1)).setCell ⟨w4.heap.size,2,none⟩ (.slice G2 nG2 cG2)).heap[b]? = w5.heap[b]? := fun b hb => heap_setCells w4.heap.size [.bool (negR r).num.neg, .slice G1 nG1 cG1, .slice G2 nG2 cG2] w5 0 b (by have := HL4.out b hb; omega)
    have VB := hid (show Below wr.heap.size wr (((w5.setCell ⟨w4.heap.size,0,none⟩ (.bool (negR r).num.neg)).setCell ⟨w4.heap.size,1,none⟩ (.slice G1 nG1 cG1)).setCell ⟨w4.heap.size,2,none⟩ (.slice G2 nG2 cG2)) from (((Below.next HB4.out HB5.out).setCell (p := ⟨w4.heap.size,0,none⟩) (show wr.heap.size ≤ w4.heap.size by omega) _).setCell (p := ⟨w4.heap.size,1,none⟩) (show wr.heap.size ≤ w4.heap.size by omega) _).setCell (p := ⟨w4.heap.size,2,none⟩) (show wr.heap.size ≤ w4.heap.size by omega) _)
    have VA := hid (HA5.out.keep hkp)
    have VF := hid ((HO4.out.free.below HB5.out).keep hkp)
    clear ha5 hb5 z5 hc_w3 hf_w3 hc_w4 hf_w4 hkp
    go_upto_region 11 with fail
    have c0 : (((w5.setCell ⟨w4.heap.size,0,none⟩ (.bool (negR r).num.neg)).setCell ⟨w4.heap.size,1,none⟩ (.slice G1 nG1 cG1)).setCell ⟨w4.heap.size,2,none⟩ (.slice G2 nG2 cG2)).cell? ⟨w4.heap.size,0,none⟩ = some (.bool (negR r).num.neg) := by go_simp
    have c1 : (((w5.setCell ⟨w4.heap.size,0,none⟩ (.bool (negR r).num.neg)).setCell ⟨w4.heap.size,1,none⟩ (.slice G1 nG1 cG1)).setCell ⟨w4.heap.size,2,none⟩ (.slice G2 nG2 cG2)).cell? ⟨w4.heap.size,1,none⟩ = some (.slice G1 nG1 cG1) := by go_simp
    have c2 : (((w5.setCell ⟨w4.heap.size,0,none⟩ (.bool (negR r).num.neg)).setCell ⟨w4.heap.size,1,none⟩ (.slice G1 nG1 cG1)).setCell ⟨w4.heap.size,2,none⟩ (.slice G2 nG2 cG2)).cell? ⟨w4.heap.size,2,none⟩ = some (.slice G2 nG2 cG2) := by go_simp
    have hV : w4.heap.size < (((w5.setCell ⟨w4.heap.size,0,none⟩ (.bool (negR r).num.neg)).setCell ⟨w4.heap.size,1,none⟩ (.slice G1 nG1 cG1)).setCell ⟨w4.heap.size,2,none⟩ (.slice G2 nG2 cG2)).heap.size := by simp; omega
    clear d0 d1 d2 f0 f1 f2
    generalize (((w5.setCell ⟨w4.heap.size,0,none⟩ (.bool (negR r).num.neg)).setCell ⟨w4.heap.size,1,none⟩ (.slice G1 nG1 cG1)).setCell ⟨w4.heap.size,2,none⟩ (.slice G2 nG2 cG2)) = V at *
    have VD := hid (rat_dat VA.out)
    have hownA := ownsRow_below hown.out VB.out
    have WV := hid (show w2.heap.size + 1 ≤ V.heap.size by have := VB.out.size; omega)
    go_wp2_with (at_builtin; refine wpList_push rfl _ _ 36 rfl (w2.heap.size + 1) 32 i0 (.agg #[.bool false, .slice none 0 0, .slice none 0 0]) 3 56 Tryz.underlying36 hi hz0 hz1 hz2 rfl (by decide) gB 2 cap cells (by go_simp; done) (hownA.alloc _) ⟨V.heap.size,0,none⟩ 1 1 [.bool (negR r).num.neg, .slice G1 nG1 cG1, .slice G2 nG2 cG2] (by go_simp; done) rfl (block_cells (heap_alloc_new _ _)) (Dat.one VD.out) C3.out C4.out (le_alloc WV.out _) ?_; intro g' cap' w8 hown' hgrow' hor')
    have hgB := World.ownsRow.lt hown.out _ rfl
    have hgB2 : w2.heap.size + 1 ≤ gB := hgB.1
    have PP := hid (push_ownG (w := w) (wr := wr) (g' := g') hfil.out hlen.out hown.out.1 how.out hnot.out HBW.out hgB.2 (by omega) (VB.out.alloc VB.out.size _) (Dat.keep VD.out (fun g hg => Below.heap_alloc _ _ _ (Dat.lt VD.out g hg))) (VF.out.below (Below.box _)) HR4.out hgrow' hor')
    have OW := hid hown'
    have HB8 := hid ((HB.out.trans (((VB.out.alloc VB.out.size _).mono (by omega)))).grown hgrow' (le_alloc WV.out _) (fun k2 hk2 => by injection hk2 with h; omega))
    clear hown' hgrow' hor' hownA hgB hgB2
    generalize (cells ++ [.bool (negR r).num.neg, .slice G1 nG1 cG1, .slice G2 nG2 cG2] : List Value) = cells2 at OW PP
    go_wp2_with fail
    go_roundg 0
    case measure => omega
    case rel => exact ⟨2 + 1,g',cap',cells2,(fss ++ [s4] : List (List Nat)),rfl,by go_num,rfl,OW.out,(show Filled w8 _ ((flowsL es fs k t).take (2 + 1)) _ by have h9 := PP.out.1; rw [← FL.out] at h9; exact h9),rfl,PP.out.2.1,PP.out.2.2.1,HB8.out⟩
  ·clear hi3 hb
   go_wp2
   go_ret
   exact push_doneG hown.out (by omega) hfil.out hlen.out how.out hnot.out HBW.out
end Go.Proofs.YtpfipnankjeokaaGreat.X
