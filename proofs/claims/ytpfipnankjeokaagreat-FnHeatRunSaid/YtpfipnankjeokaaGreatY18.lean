/- Part of a claim's proof: texts of this repository's wip,joined by prune.py,without the theorems that the claim does not reach. -/
import Derived.Test.YtpfipnankjeokaaGreatY16
import Derived.Test.YtpfipnankjeokaaGreatY13
import Derived.Test.YtpfipnankjeokaaGreatY12
import Derived.Test.YtpfipnankjeokaaGreatY11
import Derived.Test.YtpfipnankjeokaaGreatY17
set_option linter.constructorNameAsVariable false
namespace Go.Proofs.YtpfipnankjeokaaGreat.X
open Go.RowKit Go.XB Go.XN
def pt0 : TPoint := ⟨zeroR,zeroR⟩
def ptAt (ps : List TPoint) (i : Int) : TPoint := ps.getD i.toNat pt0
def triPts (ps : List TPoint) (t : TTri) : List TPoint := [ptAt ps t.a,ptAt ps t.b,ptAt ps t.c]
section
variable {α : Type} [Dat α]
theorem push_ownG {w wr wa w8 : World} {gB g' k : Nat} {cells cs : List Value} {fss : List (List Nat)} {ps : List α} {pt : α} {z : List Nat} (hfil : Filled wr cells ps fss) (hlen : ps.length = k) (hcl : cells.length = k * Dat.sz α) (how : Own w wr fss.flatten) (hnot : gB ∉ fss.flatten) (hb : Below w.heap.size w wr) (hgB : gB < wr.heap.size) (hbase : w.heap.size ≤ gB)
  (hC : Below wr.heap.size wr wa) (ha : Dat.at_ wa cs pt z) (hf : Free wa z) (hr : ∀ b ∈ z,wr.heap.size ≤ b) (hg : wa.grownBy w8 (some gB)) (hor : g' = gB ∨ g' = wa.heap.size) :
  Filled w8 (cells ++ cs) (ps ++ [pt]) (fss ++ [z]) ∧ Own w w8 (fss ++ [z]).flatten ∧ g' ∉ (fss ++ [z]).flatten ∧ Below w.heap.size w w8 ∧ (ps ++ [pt]).length = k + 1 := by
 have hsz := hC.size
 have hzl : ∀ b ∈ z,b < wa.heap.size := Dat.lt ha
 have hfl : ∀ b ∈ fss.flatten,b < wr.heap.size := how.lt
 have k1 : ∀ b ∈ fss.flatten,w8.heap[b]? = wr.heap[b]? := fun b hb1 => (hg.block b (by have := hfl b hb1; omega) (by intro e; injection e with e; exact hnot (e ▸ hb1))).trans (hC.block b (hfl b hb1))
 have k2 : ∀ b ∈ z,w8.heap[b]? = wa.heap[b]? := fun b hb1 => hg.block b (hzl b hb1) (by intro e; injection e with e; have := hr b hb1; omega)
 have hz : (fss ++ [z]).flatten = fss.flatten ++ z := by simp
 refine ⟨Filled.push (hfil.keep k1) (by rw [hcl,hlen]) (Dat.keep ha k2), ?_, ?_, ?_,by simp [hlen]⟩
 ·rw [hz]
  refine Own.append ⟨how.1,fun b hb1 => ⟨(how.2 b hb1).1,by obtain ⟨cs,t,e⟩ := (how.2 b hb1).2; exact ⟨cs,t,(k1 b hb1).trans e⟩⟩⟩ ⟨hf.1,fun b hb1 => ⟨by have := hr b hb1; have := hb.size; omega,by obtain ⟨cs,t,e⟩ := hf.2 b hb1; exact ⟨cs,t,(k2 b hb1).trans e⟩⟩⟩ ?_
  exact apart_of_lt hfl hr
 ·rw [hz]
  intro h
  rcases List.mem_append.1 h with h | h
  ·rcases hor with h2 | h2
   ·exact hnot (h2 ▸ h)
   ·have := hfl _ h; omega
  ·rcases hor with h2 | h2
   ·have := hr _ h; omega
   ·have := hzl _ h; omega
 ·exact (Below.next hb hC).grown hg (by have := hb.size; omega) (fun k2 hk2 => by injection hk2 with h; subst h; exact hbase)
theorem push_doneG {w wr : World} {base gB k cap : Nat} {e : TypeId} {cells : List Value} {fss : List (List Nat)} {ps : List α} (hown : wr.ownsRow base e (Dat.sz α) (.slice (some ⟨gB,0,none⟩) k cap) k cells) (hbase : w.heap.size ≤ base) (hfil : Filled wr cells ps fss) (hlen : ps.length = k) (how : Own w wr fss.flatten) (hnot : gB ∉ fss.flatten) (hb : Below w.heap.size w wr) : GivesSl w ps (.returned (.slice (some ⟨gB,0,none⟩) k cap)) wr := by
 obtain ⟨A',c',bs',hv,hs,ho⟩ := hfil.sl (α := α) hown hlen
 refine ⟨A',k,c',bs',by rw [← hv],hs,own_of_row (n := k) (fss := fss) ?_ how,hb⟩
 rcases ho with ho | ⟨g,h1,h2,h3,h4⟩
 ·exact .inl ho
 ·refine .inr ⟨g,h2,Nat.le_trans hbase h3,h4,fun hg => ?_⟩
  have e : gB = g := by simpa [Value.ownBlock] using h1
  exact hnot (e ▸ hg)
end
attribute [local go_sem] fillBy opAt deps depOf Region.wanted yielded
attribute [local simp] deps depOf MP.eq MP.agg MP.sl Facts
attribute [local go_sem] ix0 ix1 ix2
theorem infoPt' : (Tryz.prog.info? 34).map (fun i => (i.zero,i.size,i.bytes)) = some (some (.agg #[.bool false, .slice none 0 0, .slice none 0 0, .bool false, .slice none 0 0, .slice none 0 0]),6,112) := by kernel_rfl
theorem ptAt_get {ps : List TPoint} {i : Nat} {x : TPoint} (h : ps[i]? = some x) {j : Int} (hj : j.toNat = i) : ptAt ps j = x := by
 unfold ptAt; rw [hj]; simp [List.getD,h]

set_option maxHeartbeats 8000000 in
set_option maxRecDepth 10000 in
theorem impl_Corners (v : Value) (m : TMesh) (b : List Nat) (k : Nat) (t : TTri) (w : World) (hx : Agg w v m b) (hk : m.triangles[k]? = some t) (it : triIn m.points.length t) (hall : m.points.all ptOkB = true) (h40 : m.points.length ≤ 40) (h48 : m.triangles.length ≤ 48) :
  Calls Tryz.prog 8 #[v, .int .i64 k] w (GivesSl w (triPts m.points t)) := by
 obtain ⟨A0,n0,c0,s0,A1,n1,c1,s1,rfl,rfl,hs0,hs1⟩ := TMesh.agg hx
 have HS0 := hid hs0
 obtain ⟨i0,hi,hz0,hz1,hz2⟩ := info_parts infoPt'
 have hkn : k < n1 := by rw [← hs1.1]; exact (List.getElem?_eq_some_iff.1 hk).1
 have hn40 : n0 ≤ 40 := by rw [← hs0.1]; exact h40
 have hn48 : n1 ≤ 48 := by rw [← hs1.1]; exact h48
 have IT := hid (show triIn n0 t by rw [← hs0.1]; exact it)
 have ALL := hid hall
 have HL0 := hid hs0.1
 obtain ⟨be,of,t',rfl,hbl,hx1,e0,e1,e2,e3,e4,hag⟩ := TTri.elemA hs1 hkn
 obtain rfl : t = t' := by rw [hk] at hx1; exact Option.some.inj hx1
 have HAG := hid hag
 have hki : (k : Int) < n1 := by omega
 have hk48 : (n1 : Int) ≤ 48 := by omega
 have hn40i : (n0 : Int) ≤ 40 := by omega
 have WK := hid (show inB 0 (k : Int) ((n1 : Int) - 1) = true by unfold inB; simp; omega)
 have IN0 := hid (show inB 0 t.a ((n0 : Int) - 1) = true by unfold inB; have := IT.out.1; simp; omega)
 have IN1 := hid (show inB 0 t.b ((n0 : Int) - 1) = true by unfold inB; have := IT.out.2.1; simp; omega)
 have IN2 := hid (show inB 0 t.c ((n0 : Int) - 1) = true by unfold inB; have := IT.out.2.2; simp; omega)
 clear hx hk it hall h40 h48 hs0 hs1 hag hx1
 go_enter Tryz.func8,Tryz.ntmps8
 go_wp2_with fail
 have C := impl_within k 0 ((n1 : Int) - 1) (w.alloc (.cells #[.slice A0 n0 c0, .slice (some ⟨be,of,none⟩) n1 c1] 26))
 rw [WK.out] at C
 refine C.mono ?_
 clear C
 rintro _ w1 ⟨rfl,hb1⟩
 obtain ⟨hc_w1,hf_w1⟩ := bcell hb1
 have hz0_w1 : w.heap.size < w1.heap.size := by have := hb1.size; (try simp at this); omega
 have HB1 := hid (show Below w.heap.size w w1 from Below.go)
 have hbl1 : be < w1.heap.size := by have := HB1.out.size; omega
 have W1 := hid (show w.heap.size + 1 ≤ w1.heap.size by omega)
 go_wp2_with fail
 have RB := hid (World.ownsRow_made (base := w.heap.size + 1) (e := 34) (size := 6) w1 #[] 0 W1.out (Nat.zero_le _) rfl)
 refine (impl_corners _ t _ (w1.alloc (.cells #[] 34)) (HAG.out.below (HB1.out.alloc HB1.out.size _))).mono ?_
 rintro _ w2 ⟨rfl,hb2⟩
 obtain ⟨hc_w2,hf_w2⟩ := bcell hb2
 have HB12 := hid (show Below w1.heap.size w1 w2 from Below.trans (Below.box _) (hb2.mono (by simp)))
 have HB2 := hid (Below.next HB1.out HB12.out)
 have hz2' : w.heap.size < w2.heap.size := by have := HB12.out.size; omega
 have R2 := hid (ownsRow_below RB.out hb2)
 go_wp2_with fail
 go_loopg [5,22] 3 (fun g s5 s wr => ∃ (i gB cap : Nat) (cells : List Value) (fss : List (List Nat)),i + g = 3 ∧ s = .int .i64 i ∧ s5 = .slice (some ⟨gB,0,none⟩) i cap ∧ Hid (wr.ownsRow (w.heap.size + 1) 34 6 (.slice (some ⟨gB,0,none⟩) i cap) i cells) ∧ Hid (Filled wr cells ((triPts m.points t).take i) fss) ∧ Hid (((triPts m.points t).take i).length = i) ∧ Hid (Own w wr fss.flatten) ∧ Hid (gB ∉ fss.flatten) ∧ Below w.heap.size w wr ∧ (wr.cell? ⟨w.heap.size,0,none⟩ = some (.slice A0 n0 c0) ∧ w.heap.size < wr.heap.size))
 case atStart => exact ⟨0,w1.heap.size,0, [], [],rfl,rfl,rfl,R2.out,Filled.nil _ _,rfl,Own.nil _ _,(show w1.heap.size ∉ ([] : List (List Nat)).flatten by simp),HB2.out,⟨by go_simp,hz2'⟩⟩
 case round =>
  clear hc_w1 hf_w1 hc_w2 hf_w2
  obtain ⟨i,gB,cap,cells,fss,hi3,rfl,rfl,hown,hfil,hlen,how,hnot,hb,⟨q0,hzr⟩⟩ := hrel
  have HB := hid hb
  obtain rfl | rfl | rfl | rfl : i = 0 ∨ i = 1 ∨ i = 2 ∨ i = 3 := by omega
  ·obtain rfl : gk = 2 + 1 := by omega
   obtain ⟨be2,of2,x,D1,nD1,cD1,d1,D2,nD2,cD2,d2,D4,nD4,cD4,d4,D5,nD5,cD5,d5,rfl,hbl2,hx2,p0,p1,p2,p3,p4,p5,hag2⟩ := TPoint.elemA (HS0.out.below hb) (show t.a.toNat < n0 by have := IT.out.1; omega)
   have HAG2 := hid hag2
   have PX := hid (ptAt_get hx2 rfl)
   have OK := hid (show ptOkB x = true from List.all_eq_true.1 ALL.out x (List.mem_of_getElem? hx2))
   have ht0 := IT.out.1.1
   have ht1 := IT.out.1.2
   have C3 := hid (show 0 + 1 ≤ maxLen by decide)
   have C4 := hid (show (0 + 1) * 112 ≤ 140737488355328 by decide)
   clear hi3 hx2 hag2 hb
   go_wp2_with fail
   have C := impl_within t.a 0 ((n0 : Int) - 1) wr
   rw [IN0.out] at C
   refine C.mono ?_
   clear C
   rintro _ w3 ⟨rfl,hb3⟩
   obtain ⟨hc_w3,hf_w3⟩ := bcell hb3
   have HB3 := hid hb3
   go_wp2_with fail
   refine (impl_copyPoint _ x _ w3 (HAG2.out.below HB3.out) OK.out).mono ?_
   rintro _ w4 ⟨v4,s4,rfl,ha4,ho4,hb4⟩
   obtain ⟨E1,nE1,cE1,u1,E2,nE2,cE2,u2,E4,nE4,cE4,u4,E5,nE5,cE5,u5,rfl,z4,k1,k2,k4,k5⟩ := TPoint.agg ha4
   have HA4 := hid (show Dat.at_ w4 [.bool x.x.num.neg, .slice E1 nE1 cE1, .slice E2 nE2 cE2, .bool x.y.num.neg, .slice E4 nE4 cE4, .slice E5 nE5 cE5] x s4 by rw [z4]; exact TPoint.shut k1 k2 k4 k5)
   have HF4 := hid ho4.free
   have HR4 := hid (show ∀ b ∈ s4,wr.heap.size ≤ b from fun b hb => Nat.le_trans HB3.out.size (ho4.2 b hb).1)
   have HB4 := hid (Below.next HB3.out hb4)
   have q4 : w4.cell? ⟨w.heap.size,0,none⟩ = some (.slice (some ⟨be2,of2,none⟩) n0 c0) := (HB4.out.cell (p := ⟨w.heap.size,0,none⟩) hzr).trans q0
   clear hc_w3 hf_w3 hb3 ha4 ho4 hb4 z4 k1 k2 k4 k5
   have hownA := ownsRow_below hown.out HB4.out
   have W4 := hid (show w.heap.size + 1 ≤ w4.heap.size by have := HB4.out.size; omega)
   have hz4 : w.heap.size < w4.heap.size := by have := W4.out; omega
   go_wp2_with (at_builtin; refine wpList_push rfl _ _ 23 rfl (w.heap.size + 1) 34 i0 (.agg #[.bool false, .slice none 0 0, .slice none 0 0, .bool false, .slice none 0 0, .slice none 0 0]) 6 112 Tryz.underlying23 hi hz0 hz1 hz2 rfl (by decide) gB 0 cap cells (by go_simp; done) (hownA.alloc _) ⟨w4.heap.size,0,none⟩ 1 1 [.bool x.x.num.neg, .slice E1 nE1 cE1, .slice E2 nE2 cE2, .bool x.y.num.neg, .slice E4 nE4 cE4, .slice E5 nE5 cE5] (by go_simp; done) rfl (block_cells (heap_alloc_new _ _)) (Dat.one HA4.out) C3.out C4.out (le_alloc W4.out _) ?_; intro g' cap' w8 hown' hgrow' hor')
   have hgB := World.ownsRow.lt hown.out _ rfl
   have P := hid (push_ownG (w := w) (wr := wr) (g' := g') hfil.out hlen.out hown.out.1 how.out hnot.out HB.out hgB.2 (by have := hgB.1; simp at this; omega) (HB4.out.alloc HB4.out.size _) (Dat.keep HA4.out (fun g hg => Below.heap_alloc _ _ _ (Dat.lt HA4.out g hg))) (HF4.out.below (Below.box _)) HR4.out hgrow' hor')
   have OW := hid hown'
   have Q8 := hid (show w8.cell? ⟨w.heap.size,0,none⟩ = some (.slice (some ⟨be2,of2,none⟩) n0 c0) from (World.cell?_of_block (a := ⟨w.heap.size,0,none⟩) (hgrow'.block w.heap.size (by simp; have := W4.out; omega) (by intro e; injection e with e; have h9 : w.heap.size + 1 ≤ gB := hgB.1; omega))).trans (by go_simp))
   have L8 := hid (show w.heap.size < w8.heap.size by have := hgrow'.size; simp at this; have := W4.out; omega)
   clear hown' hgrow' hor' hownA hgB
   generalize (cells ++ [.bool x.x.num.neg, .slice E1 nE1 cE1, .slice E2 nE2 cE2, .bool x.y.num.neg, .slice E4 nE4 cE4, .slice E5 nE5 cE5] : List Value) = cells2 at OW P
   go_wp2_with fail
   go_roundg 2
   case measure => omega
   case rel => exact ⟨0 + 1,g',cap',cells2,(fss ++ [s4] : List (List Nat)),rfl,by go_num,rfl,OW.out,(show Filled w8 _ ((triPts m.points t).take (0 + 1)) _ by have h9 := P.out.1; rw [← PX.out] at h9; exact h9),rfl,P.out.2.1,P.out.2.2.1,P.out.2.2.2.1,⟨Q8.out,L8.out⟩⟩
  ·obtain rfl : gk = 1 + 1 := by omega
   obtain ⟨be2,of2,x,D1,nD1,cD1,d1,D2,nD2,cD2,d2,D4,nD4,cD4,d4,D5,nD5,cD5,d5,rfl,hbl2,hx2,p0,p1,p2,p3,p4,p5,hag2⟩ := TPoint.elemA (HS0.out.below hb) (show t.b.toNat < n0 by have := IT.out.2.1; omega)
   have HAG2 := hid hag2
   have PX := hid (ptAt_get hx2 rfl)
   have OK := hid (show ptOkB x = true from List.all_eq_true.1 ALL.out x (List.mem_of_getElem? hx2))
   have ht0 := IT.out.2.1.1
   have ht1 := IT.out.2.1.2
   have C3 := hid (show 1 + 1 ≤ maxLen by decide)
   have C4 := hid (show (1 + 1) * 112 ≤ 140737488355328 by decide)
   clear hi3 hx2 hag2 hb
   go_wp2_with fail
   have C := impl_within t.b 0 ((n0 : Int) - 1) wr
   rw [IN1.out] at C
   refine C.mono ?_
   clear C
   rintro _ w3 ⟨rfl,hb3⟩
   obtain ⟨hc_w3,hf_w3⟩ := bcell hb3
   have HB3 := hid hb3
   go_wp2_with fail
   refine (impl_copyPoint _ x _ w3 (HAG2.out.below HB3.out) OK.out).mono ?_
   rintro _ w4 ⟨v4,s4,rfl,ha4,ho4,hb4⟩
   obtain ⟨E1,nE1,cE1,u1,E2,nE2,cE2,u2,E4,nE4,cE4,u4,E5,nE5,cE5,u5,rfl,z4,k1,k2,k4,k5⟩ := TPoint.agg ha4
   have HA4 := hid (show Dat.at_ w4 [.bool x.x.num.neg, .slice E1 nE1 cE1, .slice E2 nE2 cE2, .bool x.y.num.neg, .slice E4 nE4 cE4, .slice E5 nE5 cE5] x s4 by rw [z4]; exact TPoint.shut k1 k2 k4 k5)
   have HF4 := hid ho4.free
   have HR4 := hid (show ∀ b ∈ s4,wr.heap.size ≤ b from fun b hb => Nat.le_trans HB3.out.size (ho4.2 b hb).1)
   have HB4 := hid (Below.next HB3.out hb4)
   have q4 : w4.cell? ⟨w.heap.size,0,none⟩ = some (.slice (some ⟨be2,of2,none⟩) n0 c0) := (HB4.out.cell (p := ⟨w.heap.size,0,none⟩) hzr).trans q0
   clear hc_w3 hf_w3 hb3 ha4 ho4 hb4 z4 k1 k2 k4 k5
   have hownA := ownsRow_below hown.out HB4.out
   have W4 := hid (show w.heap.size + 1 ≤ w4.heap.size by have := HB4.out.size; omega)
   have hz4 : w.heap.size < w4.heap.size := by have := W4.out; omega
   go_wp2_with (at_builtin; refine wpList_push rfl _ _ 23 rfl (w.heap.size + 1) 34 i0 (.agg #[.bool false, .slice none 0 0, .slice none 0 0, .bool false, .slice none 0 0, .slice none 0 0]) 6 112 Tryz.underlying23 hi hz0 hz1 hz2 rfl (by decide) gB 1 cap cells (by go_simp; done) (hownA.alloc _) ⟨w4.heap.size,0,none⟩ 1 1 [.bool x.x.num.neg, .slice E1 nE1 cE1, .slice E2 nE2 cE2, .bool x.y.num.neg, .slice E4 nE4 cE4, .slice E5 nE5 cE5] (by go_simp; done) rfl (block_cells (heap_alloc_new _ _)) (Dat.one HA4.out) C3.out C4.out (le_alloc W4.out _) ?_; intro g' cap' w8 hown' hgrow' hor')
   have hgB := World.ownsRow.lt hown.out _ rfl
   have P := hid (push_ownG (w := w) (wr := wr) (g' := g') hfil.out hlen.out hown.out.1 how.out hnot.out HB.out hgB.2 (by have := hgB.1; simp at this; omega) (HB4.out.alloc HB4.out.size _) (Dat.keep HA4.out (fun g hg => Below.heap_alloc _ _ _ (Dat.lt HA4.out g hg))) (HF4.out.below (Below.box _)) HR4.out hgrow' hor')
   have OW := hid hown'
   have Q8 := hid (show w8.cell? ⟨w.heap.size,0,none⟩ = some (.slice (some ⟨be2,of2,none⟩) n0 c0) from (World.cell?_of_block (a := ⟨w.heap.size,0,none⟩) (hgrow'.block w.heap.size (by simp; have := W4.out; omega) (by intro e; injection e with e; have h9 : w.heap.size + 1 ≤ gB := hgB.1; omega))).trans (by go_simp))
   have L8 := hid (show w.heap.size < w8.heap.size by have := hgrow'.size; simp at this; have := W4.out; omega)
   clear hown' hgrow' hor' hownA hgB
   generalize (cells ++ [.bool x.x.num.neg, .slice E1 nE1 cE1, .slice E2 nE2 cE2, .bool x.y.num.neg, .slice E4 nE4 cE4, .slice E5 nE5 cE5] : List Value) = cells2 at OW P
   go_wp2_with fail
   go_roundg 1
   case measure => omega
   case rel => exact ⟨1 + 1,g',cap',cells2,(fss ++ [s4] : List (List Nat)),rfl,by go_num,rfl,OW.out,(show Filled w8 _ ((triPts m.points t).take (1 + 1)) _ by have h9 := P.out.1; rw [← PX.out] at h9; exact h9),rfl,P.out.2.1,P.out.2.2.1,P.out.2.2.2.1,⟨Q8.out,L8.out⟩⟩
  ·obtain rfl : gk = 0 + 1 := by omega
   obtain ⟨be2,of2,x,D1,nD1,cD1,d1,D2,nD2,cD2,d2,D4,nD4,cD4,d4,D5,nD5,cD5,d5,rfl,hbl2,hx2,p0,p1,p2,p3,p4,p5,hag2⟩ := TPoint.elemA (HS0.out.below hb) (show t.c.toNat < n0 by have := IT.out.2.2; omega)
   have HAG2 := hid hag2
   have PX := hid (ptAt_get hx2 rfl)
   have OK := hid (show ptOkB x = true from List.all_eq_true.1 ALL.out x (List.mem_of_getElem? hx2))
   have ht0 := IT.out.2.2.1
   have ht1 := IT.out.2.2.2
   have C3 := hid (show 2 + 1 ≤ maxLen by decide)
   have C4 := hid (show (2 + 1) * 112 ≤ 140737488355328 by decide)
   clear hi3 hx2 hag2 hb
   go_wp2_with fail
   have C := impl_within t.c 0 ((n0 : Int) - 1) wr
   rw [IN2.out] at C
   refine C.mono ?_
   clear C
   rintro _ w3 ⟨rfl,hb3⟩
   obtain ⟨hc_w3,hf_w3⟩ := bcell hb3
   have HB3 := hid hb3
   go_wp2_with fail
   refine (impl_copyPoint _ x _ w3 (HAG2.out.below HB3.out) OK.out).mono ?_
   rintro _ w4 ⟨v4,s4,rfl,ha4,ho4,hb4⟩
   obtain ⟨E1,nE1,cE1,u1,E2,nE2,cE2,u2,E4,nE4,cE4,u4,E5,nE5,cE5,u5,rfl,z4,k1,k2,k4,k5⟩ := TPoint.agg ha4
   have HA4 := hid (show Dat.at_ w4 [.bool x.x.num.neg, .slice E1 nE1 cE1, .slice E2 nE2 cE2, .bool x.y.num.neg, .slice E4 nE4 cE4, .slice E5 nE5 cE5] x s4 by rw [z4]; exact TPoint.shut k1 k2 k4 k5)
   have HF4 := hid ho4.free
   have HR4 := hid (show ∀ b ∈ s4,wr.heap.size ≤ b from fun b hb => Nat.le_trans HB3.out.size (ho4.2 b hb).1)
   have HB4 := hid (Below.next HB3.out hb4)
   have q4 : w4.cell? ⟨w.heap.size,0,none⟩ = some (.slice (some ⟨be2,of2,none⟩) n0 c0) := (HB4.out.cell (p := ⟨w.heap.size,0,none⟩) hzr).trans q0
   clear hc_w3 hf_w3 hb3 ha4 ho4 hb4 z4 k1 k2 k4 k5
   have hownA := ownsRow_below hown.out HB4.out
   have W4 := hid (show w.heap.size + 1 ≤ w4.heap.size by have := HB4.out.size; omega)
   have hz4 : w.heap.size < w4.heap.size := by have := W4.out; omega
   go_wp2_with (at_builtin; refine wpList_push rfl _ _ 23 rfl (w.heap.size + 1) 34 i0 (.agg #[.bool false, .slice none 0 0, .slice none 0 0, .bool false, .slice none 0 0, .slice none 0 0]) 6 112 Tryz.underlying23 hi hz0 hz1 hz2 rfl (by decide) gB 2 cap cells (by go_simp; done) (hownA.alloc _) ⟨w4.heap.size,0,none⟩ 1 1 [.bool x.x.num.neg, .slice E1 nE1 cE1, .slice E2 nE2 cE2, .bool x.y.num.neg, .slice E4 nE4 cE4, .slice E5 nE5 cE5] (by go_simp; done) rfl (block_cells (heap_alloc_new _ _)) (Dat.one HA4.out) C3.out C4.out (le_alloc W4.out _) ?_; intro g' cap' w8 hown' hgrow' hor')
   have hgB := World.ownsRow.lt hown.out _ rfl
   have P := hid (push_ownG (w := w) (wr := wr) (g' := g') hfil.out hlen.out hown.out.1 how.out hnot.out HB.out hgB.2 (by have := hgB.1; simp at this; omega) (HB4.out.alloc HB4.out.size _) (Dat.keep HA4.out (fun g hg => Below.heap_alloc _ _ _ (Dat.lt HA4.out g hg))) (HF4.out.below (Below.box _)) HR4.out hgrow' hor')
   have OW := hid hown'
   have Q8 := hid (show w8.cell? ⟨w.heap.size,0,none⟩ = some (.slice (some ⟨be2,of2,none⟩) n0 c0) from (World.cell?_of_block (a := ⟨w.heap.size,0,none⟩) (hgrow'.block w.heap.size (by simp; have := W4.out; omega) (by intro e; injection e with e; have h9 : w.heap.size + 1 ≤ gB := hgB.1; omega))).trans (by go_simp))
   have L8 := hid (show w.heap.size < w8.heap.size by have := hgrow'.size; simp at this; have := W4.out; omega)
   clear hown' hgrow' hor' hownA hgB
   generalize (cells ++ [.bool x.x.num.neg, .slice E1 nE1 cE1, .slice E2 nE2 cE2, .bool x.y.num.neg, .slice E4 nE4 cE4, .slice E5 nE5 cE5] : List Value) = cells2 at OW P
   go_wp2_with fail
   go_roundg 0
   case measure => omega
   case rel => exact ⟨2 + 1,g',cap',cells2,(fss ++ [s4] : List (List Nat)),rfl,by go_num,rfl,OW.out,(show Filled w8 _ ((triPts m.points t).take (2 + 1)) _ by have h9 := P.out.1; rw [← PX.out] at h9; exact h9),rfl,P.out.2.1,P.out.2.2.1,P.out.2.2.2.1,⟨Q8.out,L8.out⟩⟩
  ·clear hi3 hb
   go_wp2
   go_ret
   exact push_doneG hown.out (Nat.le_succ _) hfil.out hlen.out how.out hnot.out HB.out
end Go.Proofs.YtpfipnankjeokaaGreat.X
namespace Go.Proofs.YtpfipnankjeokaaGreat.X
open Go.RowKit Go.XB Go.XN
def usedTri (us : List Bool) (t : TTri) : Nat → List Bool
 | 0 => us
 | 1 => us.set t.a.toNat true
 | 2 => (us.set t.a.toNat true).set t.b.toNat true
 | _ => ((us.set t.a.toNat true).set t.b.toNat true).set t.c.toNat true
def usedTo (n : Nat) (ts : List TTri) : Nat → List Bool
 | 0 => List.replicate n false
 | k + 1 => usedTri (usedTo n ts k) (ts.getD k ⟨0,0,0,0,0⟩) 3
theorem usedTri_len (us : List Bool) (t : TTri) (i : Nat) : (usedTri us t i).length = us.length := by
 unfold usedTri; split <;> simp
theorem usedTo_len (n : Nat) (ts : List TTri) : ∀ k,(usedTo n ts k).length = n
 | 0 => by simp [usedTo]
 | k + 1 => by rw [usedTo,usedTri_len,usedTo_len]
structure MeshI (m : TMesh) (xs ys : List Int) : Prop where
 pts : PtsI m.points xs ys
 sx : Small xs
 sy : Small ys
 n3 : 3 ≤ m.points.length
 n40 : m.points.length ≤ 40
 ok : m.points.all ptOkB = true
 nd : m.points.Nodup
 t1 : 1 ≤ m.triangles.length
 t48 : m.triangles.length ≤ 48
 tri : ∀ t ∈ m.triangles,triIn m.points.length t ∧ inB 0 t.region 2 = true ∧ inB 0 t.level 60 = true ∧ 0 < turnI xs ys t.a t.b t.c
 sep : ∀ (k : Nat) (t : TTri) (j : Nat) (s : TTri),m.triangles[k]? = some t → j < k → m.triangles[j]? = some s → sepI xs ys s t = true ∨ sepI xs ys t s = true
 used : usedTo m.points.length m.triangles m.triangles.length = List.replicate m.points.length true
 noin : ∀ t ∈ m.triangles,noIn xs ys m.points.length t
end Go.Proofs.YtpfipnankjeokaaGreat.X
namespace Go.Proofs.YtpfipnankjeokaaGreat.X
open Go.RowKit Go.XB Go.XN
attribute [local go_sem] fillBy opAt deps depOf Region.wanted yielded
attribute [local simp] deps depOf MP.eq MP.agg MP.sl Facts
attribute [local go_sem] ix0 ix1 ix2

theorem infoBl : (Tryz.prog.info? 4).map (fun i => (i.zero,i.size,i.bytes)) = some (some (.bool false),1,1) := by kernel_rfl
def BRow (w : World) (base g n : Nat) (fs : List Bool) : Prop := w.ownsRow base 4 1 (.slice (some ⟨g,0,none⟩) n n) n (fs.map .bool)
theorem bools_row (n : Nat) : (madeCells (Value.bool false).cells (n * 1)).toList = (List.replicate n false).map .bool := by
 rw [List.map_replicate]
 refine List.eq_replicate_iff.2 ⟨by simp [size_madeCells],fun b hb => ?_⟩
 simp only [madeCells,Array.toList_map,List.mem_map] at hb
 obtain ⟨a, _,rfl⟩ := hb
 have : (Value.bool false).cells = #[.bool false] := rfl
 simp [this,Nat.mod_one]
theorem BRow.cell {w : World} {base g n : Nat} {fs : List Bool} (h : BRow w base g n fs) {j : Nat} {f : Bool} (hf : fs[j]? = some f) : w.cell? ⟨g,j,none⟩ = some (.bool f) ∧ w.frozen? ⟨g,j,none⟩ = false := by
 have hj := (List.getElem?_eq_some_iff.1 hf).1
 have hn : fs.length = n * 1 := by have := h.1; simpa using this
 exact ⟨by rw [World.ownsRow.cellAt h j (by omega),List.getElem?_map,hf]; rfl,World.ownsRow.frozenAt h j⟩
theorem BRow.lt {w : World} {base g n : Nat} {fs : List Bool} (h : BRow w base g n fs) : g < w.heap.size := (World.ownsRow.lt h _ rfl).2
theorem BRow.set {w : World} {base g n : Nat} {fs : List Bool} (h : BRow w base g n fs) (j : Nat) (f : Bool) : BRow (w.setCell ⟨g,j,none⟩ (.bool f)) base g n (fs.set j f) := by
 unfold BRow; rw [List.map_set]; exact (World.ownsRow.stored h j _).1
theorem BRow.below {w w' : World} {base g n : Nat} {fs : List Bool} (h : BRow w base g n fs) (hb : Below w.heap.size w w') : BRow w' base g n fs := ownsRow_below h hb

set_option maxHeartbeats 1000000 in
theorem index_bool (g n : Nat) (w : World) (hc : ∀ j,j < n → w.cell? ⟨g,j,none⟩ = some (.bool true)) (hg : g < w.heap.size) (hn : n ≤ 40) :
  Calls Tryz.prog 127 #[.slice (some ⟨g,0,none⟩) n n, .bool false] w (Gives w (.int .i64 (-1))) := by
 have HC := hid hc
 clear hc
 go_enter Tryz.func127,Tryz.ntmps127
 go_wp2_with fail
 go_loopg [8] n (fun g s wr => ∃ k : Nat,k + g = n ∧ s = .int .i64 k ∧ wr = w)
 case atStart => exact ⟨0,by omega,rfl,rfl⟩
 case round =>
  obtain ⟨k,hk,rfl,rfl⟩ := hrel
  rcases Nat.lt_or_ge k n with hkn | hkn
  ·have hki : (k : Int) < n := by omega
   have hk40 : (k : Int) ≤ 40 := by omega
   have hcell := HC.out k hkn
   obtain ⟨g,rfl⟩ : ∃ g,gk = g + 1 := ⟨gk - 1,by omega⟩
   have hk' := hid (show k + 1 + g = n by omega)
   clear hk hkn
   go_wp2_with fail
   go_roundg g
   case measure => omega
   case rel => exact ⟨k + 1,hk'.out,by go_num,rfl⟩
  ·obtain rfl : k = n := by omega
   have hki : ¬ ((k : Int) < k) := by omega
   clear hk hkn
   go_wp2
   go_ret
   exact ⟨rfl,Below.refl _ _⟩
set_option maxHeartbeats 400000 in
theorem contains_bool (g n : Nat) (w : World) (hc : ∀ j,j < n → w.cell? ⟨g,j,none⟩ = some (.bool true)) (hg : g < w.heap.size) (hn : n ≤ 40) :
  Calls Tryz.prog 79 #[.slice (some ⟨g,0,none⟩) n n, .bool false] w (Gives w (.bool false)) := by
 have C := hid (index_bool g n w hc hg hn)
 clear hc
 go_enter Tryz.func79,Tryz.ntmps79
 go_wp2_with fail
 refine C.out.mono ?_
 rintro _ w1 ⟨rfl,hb1⟩
 go_wp2
 go_ret
 exact ⟨rfl,hb1⟩

set_option maxHeartbeats 16000000 in
set_option maxRecDepth 10000 in
theorem impl_IsMesh (v : Value) (m : TMesh) (b : List Nat) (xs ys : List Int) (w : World) (hx : Agg w v m b) (hm : MeshI m xs ys) : Calls Tryz.prog 30 #[v] w (Gives w (.bool true)) := by
 obtain ⟨A0,n0,c0,s0,A1,n1,c1,s1,rfl,rfl,hs0,hs1⟩ := TMesh.agg hx
 have HS0 := hid hs0; have HS1 := hid hs1; have HM := hid hm
 have hl0 := hs0.1
 have hl1 := hs1.1
 have HL0 := hid hl0; have HL1 := hid hl1
 have hn3 : 3 ≤ n0 := by rw [← hl0]; exact hm.n3
 have hn40 : n0 ≤ 40 := by rw [← hl0]; exact hm.n40
 have hm1 : 1 ≤ n1 := by rw [← hl1]; exact hm.t1
 have hm48 : n1 ≤ 48 := by rw [← hl1]; exact hm.t48
 have hnc1 : n1 ≤ c1 := hs1.2.1
 have hn0i : (n0 : Int) ≤ 40 := by omega
 have hm48i : (n1 : Int) ≤ 48 := by omega
 have WT := hid (show inB 1 n1 48 = true by unfold inB; simp; omega)
 obtain ⟨i0,hi,hz0,hz1,hz2⟩ := info_parts infoBl
 have b2 := hid (show i0.bytes * n0 ≤ 281474976710656 by rw [hz2]; omega)
 have b3 := hid (show n0 ≤ maxLen by unfold maxLen; omega)
 clear hx hs0 hs1 hm hl0 hl1
 go_enter Tryz.func30,Tryz.ntmps30
 go_wp2_with fail
 refine (impl_arePoints A0 n0 c0 m.points s0 _ (HS0.out.below Below.go) HM.out.ok HM.out.nd hn3 hn40).mono ?_
 rintro _ w1 ⟨rfl,hb1⟩
 obtain ⟨hc_w1,hf_w1⟩ := bcell hb1
 have hz0_w1 : w.heap.size < w1.heap.size := by have := hb1.size; (try simp at this); omega
 have HB1 := hid (show Below w.heap.size w w1 from Below.go)
 go_wp2_with fail
 have C := impl_within n1 1 48 w1
 rw [WT.out] at C
 refine C.mono ?_
 clear C
 rintro _ w2 ⟨rfl,hb2⟩
 obtain ⟨hc_w2,hf_w2⟩ := bcell hb2
 have hz0_w2 : w.heap.size < w2.heap.size := by have := hb2.size; (try simp at this); omega
 have HB2 := hid (Below.next HB1.out hb2)
 go_wp2_with fail
 refine (impl_place A0 n0 c0 m.points s0 xs ys w2 (HS0.out.below HB2.out) HM.out.pts HM.out.sx HM.out.sy hn40 (by omega)).mono ?_
 rintro _ w3 ⟨vp,rfl,hp,hb3⟩
 have HP := hid hp
 obtain ⟨A,cA,X,oX,cX,Y,oY,cY,bX,bY,rfl,hX,hY⟩ := hp
 clear hX hY
 obtain ⟨hc_w3,hf_w3⟩ := bcell hb3
 have hz0_w3 : w.heap.size < w3.heap.size := by have := hb3.size; (try simp at this); omega
 have HB3 := hid (Below.next HB2.out hb3)
 have k0 : w3.cell? ⟨w.heap.size,0,none⟩ = some (.slice A0 n0 c0) := by go_simp
 have k1 : w3.cell? ⟨w.heap.size,1,none⟩ = some (.slice A1 n1 c1) := by go_simp
 clear hc_w1 hf_w1 hc_w2 hf_w2 hc_w3 hf_w3 hb1 hb2 hb3
 go_upto_region 4 with fail
 have hsW : w.heap.size ≤ (w3.alloc (.cells #[.slice A n0 cA, .slice (some ⟨X,oX,none⟩) n0 cX, .slice (some ⟨Y,oY,none⟩) n0 cY] 111)).heap.size := by simp; omega
 go_upto_region 5 with (at_make; (refine wpList_make_full _ rfl _ _ 113 rfl w.heap.size 4 i0 (.bool false) 1 Tryz.underlying113 hi hz0 hz1 .i64 .i64 _ _ n0 rfl rfl rfl rfl b2.out b3.out hsW ?_); intro w4 hown4 hgrow4)
 rw [bools_row] at hown4
 rw [World.size_alloc] at hown4
 have hb4 := (Below.refl (w3.heap.size + 1) (w3.alloc (.cells #[.slice A n0 cA, .slice (some ⟨X,oX,none⟩) n0 cX, .slice (some ⟨Y,oY,none⟩) n0 cY] 111))).grown hgrow4 (by simp) (by intro k hk; cases hk)
 have BR4 := hid (show BRow w4 w.heap.size (w3.heap.size + 1) n0 (usedTo n0 m.triangles 0) from hown4)
 have HB4 := hid (show Below w3.heap.size w3 w4 from (Below.box _).trans (hb4.mono (by omega)))
 have p0 : w4.cell? ⟨w3.heap.size,0,none⟩ = some (.slice A n0 cA) := (hb4.cell (p := ⟨w3.heap.size,0,none⟩) (Nat.lt_succ_self _)).trans (by go_simp)
 have p1 : w4.cell? ⟨w3.heap.size,1,none⟩ = some (.slice (some ⟨X,oX,none⟩) n0 cX) := (hb4.cell (p := ⟨w3.heap.size,1,none⟩) (Nat.lt_succ_self _)).trans (by go_simp)
 have p2 : w4.cell? ⟨w3.heap.size,2,none⟩ = some (.slice (some ⟨Y,oY,none⟩) n0 cY) := (hb4.cell (p := ⟨w3.heap.size,2,none⟩) (Nat.lt_succ_self _)).trans (by go_simp)
 have j0 : w4.cell? ⟨w.heap.size,0,none⟩ = some (.slice A0 n0 c0) := (HB4.out.cell (p := ⟨w.heap.size,0,none⟩) hz0_w3).trans k0
 have j1 : w4.cell? ⟨w.heap.size,1,none⟩ = some (.slice A1 n1 c1) := (HB4.out.cell (p := ⟨w.heap.size,1,none⟩) hz0_w3).trans k1
 have hw34 : w3.heap.size + 1 < w4.heap.size := BR4.out.lt
 have hzw4 : w.heap.size < w4.heap.size := by omega
 clear hown4 hgrow4 hb4
 go_wp2_with fail
 go_loopg [32] n1 (fun g s wr => ∃ k : Nat,k + g = n1 ∧ s = .int .i64 k ∧ Hid (BRow wr w.heap.size (w3.heap.size + 1) n0 (usedTo n0 m.triangles k)) ∧ Below w3.heap.size w3 wr ∧ (wr.cell? ⟨w3.heap.size,0,none⟩ = some (.slice A n0 cA) ∧ wr.cell? ⟨w3.heap.size,1,none⟩ = some (.slice (some ⟨X,oX,none⟩) n0 cX) ∧ wr.cell? ⟨w3.heap.size,2,none⟩ = some (.slice (some ⟨Y,oY,none⟩) n0 cY)))
 case atStart => exact ⟨0,by omega,rfl,BR4.out,HB4.out,⟨p0,p1,p2⟩⟩
 case round =>
  clear p0 p1 p2 j0 j1
  obtain ⟨k,hk,rfl,hbr,hb,⟨p0,p1,p2⟩⟩ := hrel
  have HB := hid hb
  have HBW := hid (Below.next HB3.out hb)
  have HPr := hid (HP.out.below hb)
  have j0 : wr.cell? ⟨w.heap.size,0,none⟩ = some (.slice A0 n0 c0) := (hb.cell (p := ⟨w.heap.size,0,none⟩) hz0_w3).trans k0
  have j1 : wr.cell? ⟨w.heap.size,1,none⟩ = some (.slice A1 n1 c1) := (hb.cell (p := ⟨w.heap.size,1,none⟩) hz0_w3).trans k1
  have hwr : w3.heap.size + 1 < wr.heap.size := hbr.out.lt
  have hzr0 : w.heap.size < wr.heap.size := by omega
  have hzr1 : w3.heap.size < wr.heap.size := by omega
  rcases Nat.lt_or_ge k n1 with hkn | hkn
  ·rename World => wo
   have hki : (k : Int) < n1 := by omega
   have hki0 : (0 : Int) ≤ k := by omega
   have hk48 : (k : Int) ≤ 48 := by omega
   have hkc : (k : Int) ≤ c1 := by omega
   obtain ⟨be,of,t,hA,hbl,hx1,e0,e1,e2,e3,e4,hag⟩ := TTri.elemA (HS1.out.below HBW.out) hkn
   subst hA
   have HAG := hid hag
   have HAT0 := hid (show ∀ W : World,Agg W (.agg #[.int .i64 t.a, .int .i64 t.b, .int .i64 t.c, .int .i64 t.region, .int .i64 t.level]) t [] from fun W => by
    obtain ⟨_, _,i1,i2,i3,i4,i5⟩ := TTri.agg hag
    exact TTri.mkAgg i1 i2 i3 i4 i5)
   have TK := hid hx1
   have HT := hid (HM.out.tri t (List.mem_of_getElem? hx1))
   have IT := hid (show triIn n0 t by have := HT.out.1; rwa [HL0.out] at this)
   have UN := hid (show usedTri (usedTo n0 m.triangles k) t 3 = usedTo n0 m.triangles (k + 1) by
    rw [usedTo,List.getD_eq_getElem?_getD,hx1]; rfl)
   obtain ⟨g,rfl⟩ : ∃ g,gk = g + 1 := ⟨gk - 1,by omega⟩
   have hk' := hid (show k + 1 + g = n1 by omega)
   clear hk hkn hx1 hag hb
   go_wp2_with fail
   refine (impl_triangleOk _ n0 xs ys _ t _ (wo.alloc (.cells #[.int .i64 t.a, .int .i64 t.b, .int .i64 t.c, .int .i64 t.region, .int .i64 t.level] 77)) (HPr.out.below (Below.box _)) HM.out.sx HM.out.sy hn40 (HAG.out.below (Below.box _)) IT.out HT.out.2.1 HT.out.2.2.1 HT.out.2.2.2).mono ?_
   rintro _ w5 ⟨rfl,hb5⟩
   obtain ⟨hc_w5,hf_w5⟩ := bcell hb5
   have HB5 := hid (show Below wo.heap.size wo w5 from Below.trans (Below.box _) (hb5.mono (by simp)))
   have hs5 : wo.heap.size < w5.heap.size := by have := hb5.size; simp at this; omega
   go_wp2_with fail
   refine (impl_corners _ t _ w5 (HAG.out.below HB5.out)).mono ?_
   rintro _ w6 ⟨rfl,hb6⟩
   obtain ⟨hc_w6,hf_w6⟩ := bcell hb6
   have HB6 := hid (Below.next HB5.out hb6)
   have hs6 : wo.heap.size < w6.heap.size := by have := hb6.size; omega
   have hs60 : w.heap.size < w6.heap.size := by omega
   have hs61 : w3.heap.size < w6.heap.size := by omega
   have hs50 : w.heap.size < w5.heap.size := by omega
   have hs51 : w3.heap.size < w5.heap.size := by omega
   go_wp2_with fail
   go_loopg [43] 3 (fun g s wr => ∃ i : Nat,i + g = 3 ∧ s = .int .i64 i ∧ Hid (BRow wr w.heap.size (w3.heap.size + 1) n0 (usedTri (usedTo n0 m.triangles k) t i)) ∧ Below w3.heap.size w3 wr ∧ wo.heap.size < wr.heap.size ∧ (wr.cell? ⟨w3.heap.size,0,none⟩ = some (.slice A n0 cA) ∧ wr.cell? ⟨w3.heap.size,1,none⟩ = some (.slice (some ⟨X,oX,none⟩) n0 cX) ∧ wr.cell? ⟨w3.heap.size,2,none⟩ = some (.slice (some ⟨Y,oY,none⟩) n0 cY) ∧ wr.cell? ⟨wo.heap.size,0,none⟩ = some (.int .i64 t.a) ∧ wr.cell? ⟨wo.heap.size,1,none⟩ = some (.int .i64 t.b) ∧ wr.cell? ⟨wo.heap.size,2,none⟩ = some (.int .i64 t.c) ∧ wr.cell? ⟨wo.heap.size,3,none⟩ = some (.int .i64 t.region) ∧ wr.cell? ⟨wo.heap.size,4,none⟩ = some (.int .i64 t.level)))
   case atStart => exact ⟨0,rfl,rfl,hbr.out.below HB6.out,Below.next HB.out HB6.out,hs6,⟨by go_simp,by go_simp,by go_simp,by go_simp,by go_simp,by go_simp,by go_simp,by go_simp⟩⟩
   case round =>
   clear hc_w5 hf_w5 hc_w6 hf_w6 p0 p1 p2
   obtain ⟨i,hi2,rfl,hbr2,hb2,hwo,⟨p0,p1,p2,t0,t1,t2,t3,t4⟩⟩ := hrel
   have HB2' := hid hb2
   obtain rfl | rfl | rfl | rfl : i = 0 ∨ i = 1 ∨ i = 2 ∨ i = 3 := by omega
   ·obtain rfl : gk = 2 + 1 := by omega
    have h0 := IT.out.1.1
    have h1 := IT.out.1.2
    have hcell := hbr2.out.cell (j := t.a.toNat) (f := (usedTri (usedTo n0 m.triangles k) t 0).getD t.a.toNat false) (by
     rw [List.getD_eq_getElem?_getD,List.getElem?_eq_getElem (by rw [usedTri_len,usedTo_len]; omega)]; rfl)
    obtain ⟨uc,uf⟩ := hcell
    have BR3 := hid (show BRow (wr.setCell ⟨w3.heap.size + 1,t.a.toNat,none⟩ (.bool true)) w.heap.size (w3.heap.size + 1) n0 (usedTri (usedTo n0 m.triangles k) t (0 + 1)) from hbr2.out.set _ _)
    have HB3 := hid (show Below w3.heap.size w3 (wr.setCell ⟨w3.heap.size + 1,t.a.toNat,none⟩ (.bool true)) from hb2.setCell (p := ⟨w3.heap.size + 1,t.a.toNat,none⟩) (show w3.heap.size ≤ w3.heap.size + 1 by omega) _)
    have hlt := hbr2.out.lt
    clear hi2
    go_wp2_with fail
    go_roundg 2
    case measure => omega
    case rel => exact ⟨0 + 1,rfl,by go_num,BR3.out,HB3.out,by simpa using hwo,⟨by go_simp,by go_simp,by go_simp,by go_simp,by go_simp,by go_simp,by go_simp,by go_simp⟩⟩
   ·obtain rfl : gk = 1 + 1 := by omega
    have h0 := IT.out.2.1.1
    have h1 := IT.out.2.1.2
    have hcell := hbr2.out.cell (j := t.b.toNat) (f := (usedTri (usedTo n0 m.triangles k) t 1).getD t.b.toNat false) (by
     rw [List.getD_eq_getElem?_getD,List.getElem?_eq_getElem (by rw [usedTri_len,usedTo_len]; omega)]; rfl)
    obtain ⟨uc,uf⟩ := hcell
    have BR3 := hid (show BRow (wr.setCell ⟨w3.heap.size + 1,t.b.toNat,none⟩ (.bool true)) w.heap.size (w3.heap.size + 1) n0 (usedTri (usedTo n0 m.triangles k) t (1 + 1)) from hbr2.out.set _ _)
    have HB3 := hid (show Below w3.heap.size w3 (wr.setCell ⟨w3.heap.size + 1,t.b.toNat,none⟩ (.bool true)) from hb2.setCell (p := ⟨w3.heap.size + 1,t.b.toNat,none⟩) (show w3.heap.size ≤ w3.heap.size + 1 by omega) _)
    have hlt := hbr2.out.lt
    clear hi2
    go_wp2_with fail
    go_roundg 1
    case measure => omega
    case rel => exact ⟨1 + 1,rfl,by go_num,BR3.out,HB3.out,by simpa using hwo,⟨by go_simp,by go_simp,by go_simp,by go_simp,by go_simp,by go_simp,by go_simp,by go_simp⟩⟩
   ·obtain rfl : gk = 0 + 1 := by omega
    have h0 := IT.out.2.2.1
    have h1 := IT.out.2.2.2
    have hcell := hbr2.out.cell (j := t.c.toNat) (f := (usedTri (usedTo n0 m.triangles k) t 2).getD t.c.toNat false) (by
     rw [List.getD_eq_getElem?_getD,List.getElem?_eq_getElem (by rw [usedTri_len,usedTo_len]; omega)]; rfl)
    obtain ⟨uc,uf⟩ := hcell
    have BR3 := hid (show BRow (wr.setCell ⟨w3.heap.size + 1,t.c.toNat,none⟩ (.bool true)) w.heap.size (w3.heap.size + 1) n0 (usedTri (usedTo n0 m.triangles k) t (2 + 1)) from hbr2.out.set _ _)
    have HB3 := hid (show Below w3.heap.size w3 (wr.setCell ⟨w3.heap.size + 1,t.c.toNat,none⟩ (.bool true)) from hb2.setCell (p := ⟨w3.heap.size + 1,t.c.toNat,none⟩) (show w3.heap.size ≤ w3.heap.size + 1 by omega) _)
    have hlt := hbr2.out.lt
    clear hi2
    go_wp2_with fail
    go_roundg 0
    case measure => omega
    case rel => exact ⟨2 + 1,rfl,by go_num,BR3.out,HB3.out,by simpa using hwo,⟨by go_simp,by go_simp,by go_simp,by go_simp,by go_simp,by go_simp,by go_simp,by go_simp⟩⟩
   ·clear hi2
    have q0 : wr.cell? ⟨w.heap.size,0,none⟩ = some (.slice A0 n0 c0) := (hb2.cell (p := ⟨w.heap.size,0,none⟩) hz0_w3).trans k0
    have q1 : wr.cell? ⟨w.heap.size,1,none⟩ = some (.slice (some ⟨be,of,none⟩) n1 c1) := (hb2.cell (p := ⟨w.heap.size,1,none⟩) hz0_w3).trans k1
    have hq0 : w.heap.size < wr.heap.size := by have := hbr2.out.lt; omega
    have BR5 := hid (show BRow wr w.heap.size (w3.heap.size + 1) n0 (usedTo n0 m.triangles (k + 1)) by rw [← UN.out]; exact hbr2.out)
    clear j0 j1 hbr hbr2
    go_wp2_with fail
    go_loopg [55] k (fun g s wr => ∃ j : Nat,j + g = k ∧ s = .int .i64 j ∧ Hid (BRow wr w.heap.size (w3.heap.size + 1) n0 (usedTo n0 m.triangles (k + 1))) ∧ Below w3.heap.size w3 wr ∧ wo.heap.size < wr.heap.size ∧ (wr.cell? ⟨w3.heap.size,0,none⟩ = some (.slice A n0 cA) ∧ wr.cell? ⟨w3.heap.size,1,none⟩ = some (.slice (some ⟨X,oX,none⟩) n0 cX) ∧ wr.cell? ⟨w3.heap.size,2,none⟩ = some (.slice (some ⟨Y,oY,none⟩) n0 cY) ∧ wr.cell? ⟨wo.heap.size,0,none⟩ = some (.int .i64 t.a) ∧ wr.cell? ⟨wo.heap.size,1,none⟩ = some (.int .i64 t.b) ∧ wr.cell? ⟨wo.heap.size,2,none⟩ = some (.int .i64 t.c) ∧ wr.cell? ⟨wo.heap.size,3,none⟩ = some (.int .i64 t.region) ∧ wr.cell? ⟨wo.heap.size,4,none⟩ = some (.int .i64 t.level)))
    case atStart => exact ⟨0,by omega,rfl,BR5.out,HB2'.out,hwo,⟨p0,p1,p2,t0,t1,t2,t3,t4⟩⟩
    case round =>
     clear p0 p1 p2 t0 t1 t2 t3 t4 q0 q1 hq0 hwo
     obtain ⟨j,hj,rfl,hbr3,hb3,hwo,⟨p0,p1,p2,t0,t1,t2,t3,t4⟩⟩ := hrel
     have HBj := hid hb3
     have HBWj := hid (Below.next HB3.out hb3)
     have hq3 : w3.heap.size < wr.heap.size := by have := hbr3.out.lt; omega
     rcases Nat.lt_or_ge j k with hjk | hjk
     ·have hji : (j : Int) < k := by omega
      have hjn : j < n1 := by omega
      obtain ⟨be',of',s,hA',hbl',hx2,u0,u1,u2,u3,u4,hagS⟩ := TTri.elemA (HS1.out.below HBWj.out) hjn
      cases hA'
      have HAS := hid hagS
      have SP := hid (HM.out.sep k t j s TK.out hjk hx2)
      have IS := hid (show triIn n0 s by have := (HM.out.tri s (List.mem_of_getElem? hx2)).1; rwa [HL0.out] at this)
      obtain ⟨g',rfl⟩ : ∃ g',gk = g' + 1 := ⟨gk - 1,by omega⟩
      have hj' := hid (show j + 1 + g' = k by omega)
      have hsep1 := impl_separates _ n0 xs ys (.agg #[.int .i64 s.a, .int .i64 s.b, .int .i64 s.c, .int .i64 s.region, .int .i64 s.level]) (.agg #[.int .i64 t.a, .int .i64 t.b, .int .i64 t.c, .int .i64 t.region, .int .i64 t.level]) s t _ _ (wr.alloc (.cells #[.int .i64 s.a, .int .i64 s.b, .int .i64 s.c, .int .i64 s.region, .int .i64 s.level] 77)) ((HP.out.below HBj.out).below (Below.box _)) HM.out.sx HM.out.sy (HAS.out.below (Below.box _)) (HAT0.out _) IS.out IT.out
      have S1 := hid hsep1
      clear hj hjk hx2 hagS hsep1
      cases hs1 : sepI xs ys s t
      ·have SF := hid hs1
       have ST := hid (show sepI xs ys t s = true from (SP.out).resolve_left (by rw [hs1]; simp))
       clear hs1
       go_wp2_with fail
       have C := S1.out
       rw [SF.out] at C
       refine C.mono ?_
       clear C
       rintro _ w8 ⟨rfl,hb8⟩
       obtain ⟨hc_w8,hf_w8⟩ := bcell hb8
       have HB8 := hid (show Below wr.heap.size wr w8 from Below.trans (Below.box _) (hb8.mono (by simp)))
       have hs8 : wr.heap.size < w8.heap.size := by have := hb8.size; simp at this; omega
       have hs80 : w3.heap.size < w8.heap.size := by omega
       have hs81 : wo.heap.size < w8.heap.size := by omega
       go_wp2_with fail
       have C := impl_separates _ n0 xs ys (.agg #[.int .i64 t.a, .int .i64 t.b, .int .i64 t.c, .int .i64 t.region, .int .i64 t.level]) (.agg #[.int .i64 s.a, .int .i64 s.b, .int .i64 s.c, .int .i64 s.region, .int .i64 s.level]) t s _ _ w8 ((HP.out.below HBj.out).below HB8.out) HM.out.sx HM.out.sy (HAT0.out _) (HAS.out.below HB8.out) IT.out IS.out
       rw [ST.out] at C
       refine C.mono ?_
       clear C
       rintro _ w9 ⟨rfl,hb9⟩
       obtain ⟨hc_w9,hf_w9⟩ := bcell hb9
       have HB9 := hid (Below.next HB8.out hb9)
       have hs9 : w8.heap.size ≤ w9.heap.size := hb9.size
       go_wp2_with fail
       go_roundg g'
       case measure => omega
       case rel => exact ⟨j + 1,hj'.out,by go_num,hbr3.out.below HB9.out,Below.next HBj.out HB9.out,by omega,⟨by go_simp,by go_simp,by go_simp,by go_simp,by go_simp,by go_simp,by go_simp,by go_simp⟩⟩
      ·have SF := hid hs1
       clear hs1
       go_wp2_with fail
       have C := S1.out
       rw [SF.out] at C
       refine C.mono ?_
       clear C
       rintro _ w8 ⟨rfl,hb8⟩
       obtain ⟨hc_w8,hf_w8⟩ := bcell hb8
       have HB8 := hid (show Below wr.heap.size wr w8 from Below.trans (Below.box _) (hb8.mono (by simp)))
       have hs8 : wr.heap.size < w8.heap.size := by have := hb8.size; simp at this; omega
       go_wp2_with fail
       go_roundg g'
       case measure => omega
       case rel => exact ⟨j + 1,hj'.out,by go_num,hbr3.out.below HB8.out,Below.next HBj.out HB8.out,by omega,⟨by go_simp,by go_simp,by go_simp,by go_simp,by go_simp,by go_simp,by go_simp,by go_simp⟩⟩
     ·obtain rfl : j = k := by omega
      have hji : ¬ ((j : Int) < j) := by omega
      clear hj hjk
      go_wp2_with fail
      go_roundg g
      case measure => omega
      case rel => exact ⟨j + 1,hk'.out,by go_num,hbr3.out,HBj.out,⟨p0,p1,p2⟩⟩
  ·obtain rfl : k = n1 := by omega
   have hki : ¬ ((k : Int) < k) := by omega
   have BT := hid (show BRow wr w.heap.size (w3.heap.size + 1) n0 (List.replicate n0 true) by
    have h1 := HM.out.used
    rw [HL0.out,HL1.out] at h1
    rw [← h1]; exact hbr.out)
   have CB := hid (contains_bool (w3.heap.size + 1) n0 wr (fun j hj => (BT.out.cell (j := j) (f := true) (by rw [List.getElem?_replicate,if_pos hj])).1) BT.out.lt hn40)
   clear hk hkn hb hbr
   go_wp2_with fail
   refine CB.out.mono ?_
   rintro _ w5 ⟨rfl,hb5⟩
   obtain ⟨hc_w5,hf_w5⟩ := bcell hb5
   have hz5 : w.heap.size < w5.heap.size := by have := hb5.size; omega
   have hz6 : w3.heap.size < w5.heap.size := by have := hb5.size; omega
   have HB5 := hid (Below.next HBW.out hb5)
   go_wp2_with fail
   refine (impl_hasInside _ n0 xs ys A1 k c1 m.triangles s1 w5 (HPr.out.below hb5) HM.out.sx HM.out.sy hn40 (HS1.out.below HB5.out) hm48 (fun t ht => by have := (HM.out.tri t ht).1; rwa [HL0.out] at this) (fun t ht => by have := HM.out.noin t ht; rwa [HL0.out] at this)).mono ?_
   rintro _ w6 ⟨rfl,hb6⟩
   go_wp2
   go_ret
   exact ⟨rfl,Below.next HB5.out hb6⟩
end Go.Proofs.YtpfipnankjeokaaGreat.X
namespace Go.Proofs.YtpfipnankjeokaaGreat.X
open Go.RowKit Go.XB Go.XN
def fieldTo (l : List TPoint) (fs : List TRat) (z : TPoint) : Nat → TPoint
 | 0 => ptI 0 0
 | k + 1 => padd (fieldTo l fs z k) (pscale (fs.getD k zeroR) (psub z (l.getD k pt0)))
def fieldP (a b c : TPoint) (fs : List TRat) (z : TPoint) : TPoint := pscale (rdiv (rint 1) (darea a b c)) (fieldTo [a,b,c] fs z 3)
theorem heap_keep' {w w' : World} {b : Nat} {o : Obj} (h : w.heap[b]? = some o) (hb : Below w.heap.size w w') : w'.heap[b]? = some o := (hb.block b (lt_of_get h)).trans h
attribute [local go_sem] fillBy opAt deps depOf Region.wanted yielded
attribute [local simp] deps depOf MP.eq MP.agg MP.sl Facts
end Go.Proofs.YtpfipnankjeokaaGreat.X
namespace Go.Proofs.YtpfipnankjeokaaGreat.X
open Go.RowKit Go.XB Go.XN
def negR (r : TRat) : TRat := ⟨encI (-numv r),r.den⟩
def flowOf (es : List TEdge) (fs : List TRat) (k a b : Int) : TRat := if (es.getD (bsAt es (ekey a b)) edge0).left = k then fs.getD (bsAt es (ekey a b)) zeroR else negR (fs.getD (bsAt es (ekey a b)) zeroR)
def flowsL (es : List TEdge) (fs : List TRat) (k : Int) (t : TTri) : List TRat := [flowOf es fs k t.b t.c,flowOf es fs k t.c t.a,flowOf es fs k t.a t.b]
def sidesIn (es : List TEdge) (t : TTri) : Prop := bsIn es (ekey t.b t.c) = true ∧ bsIn es (ekey t.c t.a) = true ∧ bsIn es (ekey t.a t.b) = true
attribute [local go_sem] fillBy opAt deps depOf Region.wanted yielded
attribute [local simp] deps depOf MP.eq MP.agg MP.sl Facts
attribute [local go_sem] ix0 ix1 ix2
theorem rat_dat {w : World} {y : TRat} {u0 u1 u2 : Value} {b : List Nat} (h : Agg w (.agg #[u0,u1,u2]) y b) : Dat.at_ w [u0,u1,u2] y b := by
 obtain ⟨cs,he,hd⟩ := h
 have e2 : cs = [u0,u1,u2] := by have := congrArg (fun v => match v with | .agg c => c.toList | _ => []) he; simpa using this.symm
 rw [← e2]; exact hd
theorem infoRt : (Tryz.prog.info? 32).map (fun i => (i.zero,i.size,i.bytes)) = some (some (.agg #[.bool false, .slice none 0 0, .slice none 0 0]),3,56) := by kernel_rfl
end Go.Proofs.YtpfipnankjeokaaGreat.X
namespace Go.Proofs.YtpfipnankjeokaaGreat.X
open Go.RowKit Go.XB Go.XN
def cflux (m : TMesh) (d : TPoint) : List TRat := (edgesL m.triangles).map (fun e => cross d (psub (ptAt m.points e.b) (ptAt m.points e.a)))
attribute [local go_sem] fillBy opAt deps depOf Region.wanted yielded
attribute [local simp] deps depOf MP.eq MP.agg MP.sl MP.slbox Facts
theorem known_ifVector_1 : Known 87 := fun a w => by kernel_rfl
def denBad (x : TRat) : Bool := x.den.isEmpty
set_option maxHeartbeats 400000 in
theorem impl_ifVector_1 (v : Value) (x : TRat) (b : List Nat) (w : World) (hx : Agg w v x b) : Calls Tryz.prog 87 #[v] w (Gives w (.bool (denBad x))) := by
 have HX := hid hx
 obtain ⟨A1,n1,c1,s1,A2,n2,c2,s2,rfl,rfl,hs1,hs2⟩ := TRat.agg hx
 clear hs1 hs2 hx
 go_enter Tryz.func87,Tryz.ntmps87
 go_wp2_with fail
 refine (impl_isRat _ x _ _ (Agg.below HX.out Below.go)).mono ?_
 rintro _ w1 ⟨rfl,hb1⟩
 go_wp2
 go_ret
 exact ⟨by unfold denBad; simp,Below.go⟩
set_option maxHeartbeats 400000 in
theorem impl_ifVector (A : Option Addr) (n c : Nat) (xs : List TRat) (bs : List Nat) (w : World) (hx : Sl w A n c xs bs) (hall : xs.any denBad = false) :
  Calls Tryz.prog 35 #[.slice A n c] w (Gives w (.slice A n c)) := by
 have HX := hid hx; have HA := hid hall
 clear hx hall
 go_enter Tryz.func35,Tryz.ntmps35
 go_wp2_with fail
 have C := contains_rats 87 known_ifVector_1 A n c xs bs w denBad HX.out (fun v x b w _ h => impl_ifVector_1 v x b w h)
 rw [HA.out] at C
 refine C.mono ?_
 clear C
 rintro _ w1 ⟨rfl,hb1⟩
 go_wp2
 go_ret
 exact ⟨rfl,hb1⟩

end Go.Proofs.YtpfipnankjeokaaGreat.X
namespace Go.Proofs.YtpfipnankjeokaaGreat.X
open Go.RowKit Go.XB Go.XN
def leftTo (es : List TEdge) (fs : List TRat) (t : Int) : Nat → TRat
 | 0 => rint 0
 | k + 1 => if (es.getD k edge0).left = t then radd (leftTo es fs t k) (fs.getD k zeroR) else leftTo es fs t k
def rightTo (es : List TEdge) (fs : List TRat) (t : Int) : Nat → TRat
 | 0 => rint 0
 | k + 1 => if (es.getD k edge0).right = t then radd (rightTo es fs t k) (fs.getD k zeroR) else rightTo es fs t k
def outP (es : List TEdge) (fs : List TRat) (t : Int) : TRat := rsub (leftTo es fs t es.length) (rightTo es fs t es.length)
theorem heap_set3 {w : World} {g : Nat} {v0 v1 v2 : Value} (b : Nat) (h : b ≠ g) : (((w.setCell ⟨g,0,none⟩ v0).setCell ⟨g,1,none⟩ v1).setCell ⟨g,2,none⟩ v2).heap[b]? = w.heap[b]? := heap_setCells g [v0,v1,v2] w 0 b h
def RBox (w : World) (g : Nat) (x : TRat) (P1 : Option Addr) (n1 m1 : Nat) (P2 : Option Addr) (n2 m2 : Nat) : Prop := g < w.heap.size ∧ (w.cell? ⟨g,0,none⟩ = some (.bool x.num.neg) ∧ w.cell? ⟨g,1,none⟩ = some (.slice P1 n1 m1) ∧ w.cell? ⟨g,2,none⟩ = some (.slice P2 n2 m2)) ∧ (w.frozen? ⟨g,0,none⟩ = false ∧ w.frozen? ⟨g,1,none⟩ = false ∧ w.frozen? ⟨g,2,none⟩ = false)
theorem RBox.keep {w w' : World} {g : Nat} {x : TRat} {P1 : Option Addr} {n1 m1 : Nat} {P2 : Option Addr} {n2 m2 : Nat} (h : RBox w g x P1 n1 m1 P2 n2 m2) (hk : w'.heap[g]? = w.heap[g]?) (hs : w.heap.size ≤ w'.heap.size) : RBox w' g x P1 n1 m1 P2 n2 m2 := by
 obtain ⟨h0,⟨h1,h2,h3⟩,⟨h4,h5,h6⟩⟩ := h
 exact ⟨by omega,⟨(World.cell?_of_block hk).trans h1,(World.cell?_of_block hk).trans h2,(World.cell?_of_block hk).trans h3⟩,⟨(World.frozen?_of_block hk).trans h4,(World.frozen?_of_block hk).trans h5,(World.frozen?_of_block hk).trans h6⟩⟩
theorem RBox.below {w w' : World} {g : Nat} {x : TRat} {P1 : Option Addr} {n1 m1 : Nat} {P2 : Option Addr} {n2 m2 : Nat} (h : RBox w g x P1 n1 m1 P2 n2 m2) (hb : Below w.heap.size w w') : RBox w' g x P1 n1 m1 P2 n2 m2 := h.keep (hb.block g h.1) hb.size
attribute [local go_sem] fillBy opAt deps depOf Region.wanted yielded
attribute [local simp] deps depOf MP.eq MP.agg MP.sl Facts
theorem RBox.set {w : World} {g : Nat} {x y : TRat} {P1 : Option Addr} {n1 m1 : Nat} {P2 : Option Addr} {n2 m2 : Nat} {Q1 : Option Addr} {k1 l1 : Nat} {Q2 : Option Addr} {k2 l2 : Nat} (h : RBox w g x P1 n1 m1 P2 n2 m2) :
  RBox (((w.setCell ⟨g,0,none⟩ (.bool y.num.neg)).setCell ⟨g,1,none⟩ (.slice Q1 k1 l1)).setCell ⟨g,2,none⟩ (.slice Q2 k2 l2)) g y Q1 k1 l1 Q2 k2 l2 := by
 obtain ⟨h0,⟨h1,h2,h3⟩,⟨h4,h5,h6⟩⟩ := h
 exact ⟨by simpa using h0,⟨by go_simp,by go_simp,by go_simp⟩,⟨by go_simp,by go_simp,by go_simp⟩⟩

structure OutSt (w U : World) (ga gb : Nat) (E : Option Addr) (nf cE : Nat) (es : List TEdge) (eb : List Nat) (lx : TRat) (P1 : Option Addr) (p1 q1 : Nat) (P2 : Option Addr) (p2 q2 : Nat) (rl : List Nat) (rx : TRat) (Q1 : Option Addr) (k1 l1 : Nat) (Q2 : Option Addr) (k2 l2 : Nat) (rr : List Nat) : Prop where
 bl : Below w.heap.size w U
 ra : RBox U ga lx P1 p1 q1 P2 p2 q2
 rb : RBox U gb rx Q1 k1 l1 Q2 k2 l2
 al : Agg U (.agg #[.bool lx.num.neg, .slice P1 p1 q1, .slice P2 p2 q2]) lx rl
 ar : Agg U (.agg #[.bool rx.num.neg, .slice Q1 k1 l1, .slice Q2 k2 l2]) rx rr
 dl : ∀ b ∈ rl,b ≠ ga ∧ b ≠ gb
 dr : ∀ b ∈ rr,b ≠ ga ∧ b ≠ gb
 se : Sl U E nf cE es eb
 de : ∀ b ∈ eb,b ≠ ga ∧ b ≠ gb
 res : U.heap[w.heap.size + 1]? = some (.cells #[.bool false, .slice none 0 0, .slice none 0 0] 32)
 na : w.heap.size + 2 ≤ ga
 nb : w.heap.size + 2 ≤ gb
 ne : ga ≠ gb
end Go.Proofs.YtpfipnankjeokaaGreat.X
namespace Go.Proofs.YtpfipnankjeokaaGreat.X
open Go.RowKit Go.XB Go.XN
def mids3' (a b c : TPoint) : List TPoint := [pmid b c,pmid c a,pmid a b]
def sqTo (a b c : TPoint) (fs : List TRat) (more : TPoint) : Nat → TRat
 | 0 => rint 0
 | k + 1 => radd (sqTo a b c fs more k) (inner (padd (fieldP a b c fs ((mids3' a b c).getD k pt0)) more) (padd (fieldP a b c fs ((mids3' a b c).getD k pt0)) more))
def sqOver (a b c : TPoint) (fs : List TRat) (more : TPoint) : TRat := rmul (areaP a b c) (rmul (mkR 1 3) (sqTo a b c fs more 3))
attribute [local go_sem] fillBy opAt deps depOf Region.wanted yielded
attribute [local simp] deps depOf MP.eq MP.agg MP.sl Facts

end Go.Proofs.YtpfipnankjeokaaGreat.X
namespace Go.Proofs.YtpfipnankjeokaaGreat.X
open Go.RowKit Go.XB Go.XN
structure FluxI (m : TMesh) (xs ys : List Int) (fs : List TRat) : Prop where
 mesh : MeshI m xs ys
 len : fs.length = (edgesL m.triangles).length
 ok : fs.all ratOkB = true
attribute [local go_sem] fillBy opAt deps depOf Region.wanted yielded
attribute [local simp] deps depOf MP.eq MP.agg MP.sl Facts
set_option maxHeartbeats 400000 in
theorem impl_isVector (A : Option Addr) (n c : Nat) (xs : List TRat) (bs : List Nat) (w : World) (hx : Sl w A n c xs bs) (hok : xs.all ratOkB = true) :
  Calls Tryz.prog 100 #[.slice A n c, .int .i64 n] w (Gives w (.bool true)) := by
 have HX := hid hx; have HO := hid hok
 clear hx hok
 go_enter Tryz.func100,Tryz.ntmps100
 go_wp2_with fail
 have C := impl_areRats A n c xs bs w HX.out
 rw [HO.out] at C
 refine C.mono ?_
 clear C
 rintro _ w1 ⟨rfl,hb1⟩
 go_wp2
 go_ret
 exact ⟨rfl,hb1⟩
end Go.Proofs.YtpfipnankjeokaaGreat.X

namespace Go.XB
open Go.RowKit Go.Proofs.YtpfipnankjeokaaGreat.X
section
variable {α : Type} [Dat α]
def Pend (w wb : World) (e : TypeId) (wr : World) (gB i cap : Nat) (ps : List α) : Prop :=
 ∃ cells fss,wr.ownsRow wb.heap.size e (Dat.sz α) (.slice (some ⟨gB,0,none⟩) i cap) i cells ∧ Filled wr cells ps fss ∧ ps.length = i ∧ Own w wr fss.flatten ∧ gB ∉ fss.flatten ∧ w.heap.size ≤ wb.heap.size ∧ Below w.heap.size w wr ∧ Below wb.heap.size wb wr
variable {w wb wr wa : World} {e : TypeId} {gB i cap : Nat} {ps : List α}
theorem Pend.start (hw : Below w.heap.size w wb) : Pend (α := α) w wb e (wb.alloc (.cells #[] e)) wb.heap.size 0 0 [] :=
 ⟨[], [],World.ownsRow_made wb #[] 0 (Nat.le_refl _) (Nat.zero_le _) (by simp),Filled.nil _ _,rfl,Own.nil _ _,by simp,hw.size,Below.next hw (Below.box _),Below.box _⟩
theorem Pend.below (h : Pend w wb e wr gB i cap ps) (hb : Below wr.heap.size wr wa) : Pend w wb e wa gB i cap ps := by
 obtain ⟨cells,fss,h1,h2,h3,h4,h5,h6,h7,h8⟩ := h
 exact ⟨cells,fss,ownsRow_below h1 hb,h2.below hb,h3,h4.below hb,h5,h6,Below.next h7 hb,Below.trans h8 (hb.mono h8.size)⟩
theorem Pend.bw (h : Pend w wb e wr gB i cap ps) : Below w.heap.size w wr := by obtain ⟨_, _, _, _, _, _, _, _,h, _⟩ := h; exact h
theorem Pend.bb (h : Pend w wb e wr gB i cap ps) : Below wb.heap.size wb wr := by obtain ⟨_, _, _, _, _, _, _, _, _,h⟩ := h; exact h
theorem Pend.lt (h : Pend w wb e wr gB i cap ps) : wb.heap.size ≤ gB ∧ gB < wr.heap.size := by
 obtain ⟨cells,fss,h1, _⟩ := h; exact World.ownsRow.lt h1 _ rfl
theorem Pend.done (h : Pend w wb e wr gB i cap ps) : GivesSl w ps (.returned (.slice (some ⟨gB,0,none⟩) i cap)) wr := by
 obtain ⟨cells,fss,h1,h2,h3,h4,h5,h6,h7,h8⟩ := h
 exact push_doneG h1 h6 h2 h3 h4 h5 h7
theorem Sl.pushed {β : Type} [Dat β] {A : Option Addr} {n c : Nat} {xs : List β} {bs : List Nat} {w8 : World} {g' : Nat} (h : Sl wr A n c xs bs) (hC : Below wr.heap.size wr wa) (hg : wa.grownBy w8 (some gB)) (hor : g' = gB ∨ g' = wa.heap.size) (hn : gB ∉ bs) : Sl w8 A n c xs bs ∧ g' ∉ bs :=
 ⟨(h.below hC).keep (fun b hb => hg.block b (by have := h.lt b hb; have := hC.size; omega) (by intro e; injection e with e; exact hn (e ▸ hb))),fun hb => hor.elim (fun e => hn (e ▸ hb)) (fun e => by have := h.lt _ hb; have := hC.size; omega)⟩
end
end Go.XB
namespace Go
open Go.RowKit Go.XB Go.Proofs.YtpfipnankjeokaaGreat.X
theorem wpList_pend {P : Program} {α : Type} [Dat α] {w wb wr wa : World} {gB k cap : Nat} {ps : List α} {ops : Array Oper} {rest : List Oper} {o : Oper} {a : Act} {Q : Exit → Act → World → Prop} (hgd : o.guard = none) (s x : Operand) (t : TypeId)
  (ho : o.op = .call { callee := .builtin .append,args := #[s,x],argTypes := #[t,t] })
  (e : TypeId) (i : TypeInfo) (z : Value) (bytes : Nat) (ht : P.underlying t = some (.slice e)) (hi : P.info? e = some i) (hz : i.zero = some z)
  (hsize : i.size = Dat.sz α) (hby : i.bytes = bytes) (hzs : z.cells.size = Dat.sz α) (hp : Pend w wb e wr gB k cap ps) (hC : Below wr.heap.size wr wa) (hs : a.eval s = .slice (some ⟨gB,0,none⟩) k cap)
  (ad : Addr) (c : Nat) (cs : List Value) (pt : α) (zb : List Nat) (hx : a.eval x = .slice (some ad) 1 c) (hnews : ∀ j u,cs[j]? = some u → wa.cell? (ad.add j) = some u)
  (ha : Dat.at_ wa cs pt zb) (hf : Free wa zb) (hr : ∀ b ∈ zb,wr.heap.size ≤ b) (h63 : k + 1 ≤ maxLen) (hbytes : (k + 1) * bytes ≤ 140737488355328)
  (h : ∀ g' cap' w8,Pend w wb e w8 g' (k + 1) cap' (ps ++ [pt]) → wa.grownBy w8 (some gB) → (g' = gB ∨ g' = wa.heap.size) → wpList P ops Q rest (a.put o.dst (.slice (some ⟨g',0,none⟩) (k + 1) cap')) w8) : wpList P ops Q (o :: rest) a wa := by
 obtain ⟨cells,fss,h1,h2,h3,h4,h5,h6,h7,h8⟩ := hp
 have hl := World.ownsRow.lt h1 _ rfl
 have hsz := hC.size
 have hwb : wb.heap.size ≤ wa.heap.size := by have := h8.size; omega
 refine wpList_push hgd s x t ho wb.heap.size e i z (Dat.sz α) bytes ht hi hz hsize hby hzs Dat.pos gB k cap cells hs (ownsRow_below h1 hC) ad 1 c cs hx (by rw [Nat.one_mul]; exact Dat.len ha) hnews (Dat.one ha) h63 hbytes hwb ?_
 intro g' cap' w8 hown hg hor
 refine h g' cap' w8 ?_ hg hor
 obtain ⟨p1,p2,p3,p4,p5⟩ := push_ownG (w := w) (g' := g') h2 h3 h1.1 h4 h5 h7 hl.2 (Nat.le_trans h6 hl.1) hC ha hf hr hg hor
 exact ⟨_, _,hown,p1,p5,p2,p3,h6,p4,(h8.trans (hC.mono h8.size)).grown hg hwb (fun k2 hk2 => by injection hk2 with h; subst h; exact hl.1)⟩
end Go
namespace Go.Proofs.YtpfipnankjeokaaGreat.X
open Go.RowKit Go.XB Go.XN
attribute [local go_sem] fillBy opAt deps depOf Region.wanted yielded
attribute [local simp] deps depOf MP.eq MP.agg MP.sl MP.slbox Facts
set_option maxHeartbeats 4000000 in
set_option maxRecDepth 10000 in
theorem impl_ZeroValues (v : Value) (m : TMesh) (b : List Nat) (xs ys : List Int) (w : World) (hx : Agg w v m b) (hm : MeshI m xs ys) :
  Calls Tryz.prog 21 #[v] w (GivesSl w (List.replicate m.points.length (rint 0))) := by
 have HX := hid hx; have HM := hid hm
 obtain ⟨A0,n0,c0,s0,A1,n1,c1,s1,rfl,rfl,hs0,hs1⟩ := TMesh.agg hx
 have HN := hid hs0.1
 have hn40 : n0 ≤ 40 := by rw [← hs0.1]; exact hm.n40
 have hn40i : (n0 : Int) ≤ 40 := by omega
 obtain ⟨i0,hi,hz0,hz1,hz2⟩ := info_parts infoRt
 clear hs0 hs1 hx hm
 go_enter Tryz.func21,Tryz.ntmps21
 go_wp2_with fail
 refine (impl_IsMesh _ m _ xs ys _ (HX.out.below Below.go) HM.out).mono ?_
 rintro _ w1 ⟨rfl,hb1⟩
 obtain ⟨hc_w1,hf_w1⟩ := bcell hb1
 have hz0_w1 : w.heap.size < w1.heap.size := by have := hb1.size; (try simp at this); omega
 have HB1 := hid (show Below w.heap.size w w1 from Below.go)
 have k0 : w1.cell? ⟨w.heap.size,0,none⟩ = some (.slice A0 n0 c0) := by go_simp
 clear hc_w1 hf_w1 hb1
 go_wp2_with fail
 have P0 := hid (Pend.start (α := TRat) (e := 32) HB1.out)
 go_loopg [3,11] n0 (fun g s3 s wr => ∃ (i gB cap : Nat),i + g = n0 ∧ s = .int .i64 i ∧ s3 = .slice (some ⟨gB,0,none⟩) i cap ∧ Hid (Pend w w1 32 wr gB i cap (List.replicate i (rint 0))))
 case atStart => exact ⟨0,w1.heap.size,0,by omega,rfl,rfl,P0.out⟩
 case round =>
  clear P0
  obtain ⟨i,gB,cap,hi3,rfl,rfl,HP⟩ := hrel
  rcases Nat.lt_or_ge i n0 with hin | hin
  ·have hii : (i : Int) < n0 := by omega
   obtain ⟨g,rfl⟩ : ∃ g,gk = g + 1 := ⟨gk - 1,by omega⟩
   have hi' := hid (show i + 1 + g = n0 by omega)
   have hi1 : i + 1 ≤ n0 := hin
   have C3 := hid (show i + 1 ≤ maxLen by unfold maxLen; omega)
   have C4 := hid (show (i + 1) * 56 ≤ 140737488355328 by omega)
   clear hi3 hin
   go_wp2_with fail
   refine (impl_RatFromInt 0 wr (by constructor <;> decide)).mono ?_
   rintro _ wa ⟨va,sa,rfl,ha,ho,hba⟩
   obtain ⟨G1,nG1,cG1,g1,G2,nG2,cG2,g2,rfl,z15, _, _⟩ := TRat.agg ha
   have AT := hid (rat_dat (ha.below (Below.box (.cells #[.bool (rint 0).num.neg, .slice G1 nG1 cG1, .slice G2 nG2 cG2] 32))))
   have HF := hid ((ho.below (Below.box (.cells #[.bool (rint 0).num.neg, .slice G1 nG1 cG1, .slice G2 nG2 cG2] 32))).free)
   have HR := hid (show ∀ b ∈ sa,wr.heap.size ≤ b from fun b hb => (ho.2 b hb).1)
   have HBa := hid hba
   clear ha ho z15 hba
   go_wp2_with (at_builtin; refine wpList_pend rfl _ _ 36 rfl 32 i0 (.agg #[.bool false, .slice none 0 0, .slice none 0 0]) 56 Tryz.underlying36 hi hz0 hz1 hz2 rfl HP.out (Below.next HBa.out (Below.box _)) (by go_simp; done) ⟨wa.heap.size,0,none⟩ 1 [.bool (rint 0).num.neg, .slice G1 nG1 cG1, .slice G2 nG2 cG2] (rint 0) sa (by go_simp; done) (block_cells (heap_alloc_new wa _)) AT.out HF.out HR.out C3.out C4.out ?_; intro g' cap' w8 hp' hgrow' hor')
   have HP8 := hid (show Pend w w1 32 w8 g' (i + 1) cap' (List.replicate (i + 1) (rint 0)) by rw [List.replicate_succ']; exact hp')
   clear hp' hgrow' hor' AT HF HR HP
   go_wp2_with fail
   go_roundg g
   case measure => omega
   case rel => exact ⟨i + 1,g',cap',hi'.out,by go_num,rfl,HP8⟩
  ·obtain rfl : i = n0 := by omega
   have hii : ¬ ((i : Int) < i) := by omega
   clear hi3 hin
   go_wp2
   go_ret
   rw [HN.out]
   exact HP.out.done
end Go.Proofs.YtpfipnankjeokaaGreat.X
namespace Go.Proofs.YtpfipnankjeokaaGreat.X
open Go.RowKit Go.XB Go.XN
def Lim24 (x : TRat) : Prop := x.num.mag.length ≤ 24 ∧ x.den.length ≤ 24
theorem lim24_ok {x : TRat} (h : ratOkB x = true) : Lim24 x := ⟨(ratOkB_iff.1 h).num24,(ratOkB_iff.1 h).den24⟩
theorem lim24_all {xs : List TRat} (h : xs.all ratOkB = true) : ∀ x ∈ xs,Lim24 x := fun x hx => lim24_ok (List.all_eq_true.1 h x hx)
theorem lim24_mk (a b : Int) : Lim24 (mkR a b) := by
 unfold mkR; split
 ·rename_i h; exact h
 ·exact ⟨by decide,by decide⟩
theorem lim24_add (r s : TRat) : Lim24 (radd r s) := by
 unfold radd; split
 ·exact lim24_mk _ _
 ·exact ⟨by decide,by decide⟩
def combL (us : List TRat) (r : TRat) (vs : List TRat) : List TRat := List.zipWith (fun x y => radd x (rmul r y)) us vs
def innerTo (us vs : List TRat) : Nat → TRat
 | 0 => rint 0
 | n + 1 => radd (innerTo us vs n) (rmul (us.getD n zeroR) (vs.getD n zeroR))
def innerL (us vs : List TRat) : TRat := innerTo us vs us.length
theorem getD_of {α : Type} {l : List α} {n : Nat} {d x : α} (h : l[n]? = some x) : l.getD n d = x := by simp [List.getD,h]
attribute [local go_sem] fillBy opAt deps depOf Region.wanted yielded
attribute [local simp] deps depOf MP.eq MP.agg MP.sl MP.slbox Facts
set_option maxHeartbeats 4000000 in
set_option maxRecDepth 10000 in
theorem impl_copyVector (A : Option Addr) (n c : Nat) (xs : List TRat) (bs : List Nat) (w : World) (hx : Sl w A n c xs bs) (hn : n ≤ 144) (hl : ∀ x ∈ xs,Lim24 x) :
  Calls Tryz.prog 151 #[.slice A n c] w (GivesSl w xs) := by
 have HX := hid hx; have HLM := hid hl
 have hni : (n : Int) ≤ 144 := by omega
 obtain ⟨i0,hi,hz0,hz1,hz2⟩ := info_parts infoRt
 clear hx hl
 go_enter Tryz.func151,Tryz.ntmps151
 go_wp2_with fail
 have P0 := hid (Pend.start (α := TRat) (e := 32) (Below.refl w.heap.size w))
 go_loopg [3,9] n (fun g s3 s wr => ∃ (i gB cap : Nat),i + g = n ∧ s = .int .i64 i ∧ s3 = .slice (some ⟨gB,0,none⟩) i cap ∧ Hid (Pend w w 32 wr gB i cap (xs.take i)))
 case atStart => exact ⟨0,w.heap.size,0,by omega,rfl,rfl,P0.out⟩
 case round =>
  clear P0
  obtain ⟨i,gB,cap,hi3,rfl,rfl,HP⟩ := hrel
  have HBW := hid HP.out.bw
  rcases Nat.lt_or_ge i n with hin | hin
  ·have hii : (i : Int) < n := by omega
   obtain ⟨g,rfl⟩ : ∃ g,gk = g + 1 := ⟨gk - 1,by omega⟩
   have hi' := hid (show i + 1 + g = n by omega)
   have hi1 : i + 1 ≤ n := hin
   have C3 := hid (show i + 1 ≤ maxLen by unfold maxLen; omega)
   have C4 := hid (show (i + 1) * 56 ≤ 140737488355328 by omega)
   obtain ⟨be,oe,x,A1,n1,c1,s1,A2,n2,c2,s2,rfl,hbl,hx1,e0,e1,e2,hag⟩ := TRat.elemA (HX.out.below HBW.out) hin
   have LM := hid (HLM.out x (List.mem_of_getElem? hx1))
   have NX := hid (take_step hx1)
   have HAG := hid hag
   clear hi3 hin hag hx1
   go_wp2_with fail
   refine (impl_copyRat _ x _ _ (HAG.out.below Below.go) (Nat.le_trans LM.out.1 (by decide)) (Nat.le_trans LM.out.2 (by decide))).mono ?_
   rintro _ wa ⟨va,sa,rfl,ha,ho,hba⟩
   obtain ⟨G1,nG1,cG1,g1,G2,nG2,cG2,g2,rfl,z15, _, _⟩ := TRat.agg ha
   have AT := hid (rat_dat (ha.below (Below.box (.cells #[.bool x.num.neg, .slice G1 nG1 cG1, .slice G2 nG2 cG2] 32))))
   have HF := hid ((ho.below (Below.box (.cells #[.bool x.num.neg, .slice G1 nG1 cG1, .slice G2 nG2 cG2] 32))).free)
   have HR := hid (show ∀ b ∈ sa,wr.heap.size ≤ b from fun b hb => by have := (ho.2 b hb).1; simp at this; omega)
   have HBa := hid (show Below wr.heap.size wr wa from Below.trans (Below.box _) (hba.mono (by simp)))
   clear ha ho z15 hba
   go_wp2_with (at_builtin; refine wpList_pend rfl _ _ 36 rfl 32 i0 (.agg #[.bool false, .slice none 0 0, .slice none 0 0]) 56 Tryz.underlying36 hi hz0 hz1 hz2 rfl HP.out (Below.next HBa.out (Below.box _)) (by go_simp; done) ⟨wa.heap.size,0,none⟩ 1 [.bool x.num.neg, .slice G1 nG1 cG1, .slice G2 nG2 cG2] x sa (by go_simp; done) (block_cells (heap_alloc_new wa _)) AT.out HF.out HR.out C3.out C4.out ?_; intro g' cap' w8 hp' hgrow' hor')
   have HP8 := hid (show Pend w w 32 w8 g' (i + 1) cap' (xs.take (i + 1)) by rw [NX.out]; exact hp')
   clear hp' hgrow' hor' AT HF HR HP
   go_wp2_with fail
   go_roundg g
   case measure => omega
   case rel => exact ⟨i + 1,g',cap',hi'.out,by go_num,rfl,HP8⟩
  ·obtain rfl : i = n := by omega
   have hii : ¬ ((i : Int) < i) := by omega
   clear hi3 hin
   go_wp2
   go_ret
   have := HP.out.done
   rwa [List.take_of_length_le (by rw [HX.out.1]; exact Nat.le_refl _)] at this
set_option maxHeartbeats 4000000 in
set_option maxRecDepth 10000 in
theorem impl_combined (A : Option Addr) (n c : Nat) (xs : List TRat) (bs : List Nat) (vr : Value) (r : TRat) (br : List Nat) (B : Option Addr) (m d : Nat) (ys : List TRat) (ds : List Nat) (w : World) (hx : Sl w A n c xs bs) (hr : Agg w vr r br) (hy : Sl w B m d ys ds) (hn : n ≤ 144) (hnm : n ≤ m) :
  Calls Tryz.prog 117 #[.slice A n c,vr, .slice B m d] w (GivesSl w (combL xs r ys)) := by
 have HX := hid hx; have HY := hid hy; have HRR := hid hr
 have hni : (n : Int) ≤ 144 := by omega
 obtain ⟨R1,nR1,cR1,r1,R2,nR2,cR2,r2,rfl,rfl,hr1,hr2⟩ := TRat.agg hr
 obtain ⟨i0,hi,hz0,hz1,hz2⟩ := info_parts infoRt
 have hml : m ≤ maxLen := Nat.le_trans hy.2.1 hy.2.2.1
 unfold maxLen at hml
 clear hx hy hr hr1 hr2
 go_enter Tryz.func117,Tryz.ntmps117
 go_wp2_with fail
 have HB0 := hid (show Below w.heap.size w (w.alloc (.cells #[.bool r.num.neg, .slice R1 nR1 cR1, .slice R2 nR2 cR2] 32)) from Below.go)
 have P0 := hid (Pend.start (α := TRat) (e := 32) HB0.out)
 go_loopg [7,13] n (fun g s3 s wr => ∃ (i gB cap : Nat),i + g = n ∧ s = .int .i64 i ∧ s3 = .slice (some ⟨gB,0,none⟩) i cap ∧ Hid (Pend w (w.alloc (.cells #[.bool r.num.neg, .slice R1 nR1 cR1, .slice R2 nR2 cR2] 32)) 32 wr gB i cap ((combL xs r ys).take i)))
 case atStart => exact ⟨0,(w.alloc (.cells #[.bool r.num.neg, .slice R1 nR1 cR1, .slice R2 nR2 cR2] 32)).heap.size,0,by omega,by go_simp,by go_simp,P0.out⟩
 case round =>
  clear P0
  obtain ⟨i,gB,cap,hi3,rfl,rfl,HP⟩ := hrel
  have HBW := hid HP.out.bw
  have hbb := HP.out.bb
  have hgl := HP.out.lt.2
  obtain ⟨hc_wr,hf_wr⟩ := bcell hbb
  have hsr := hbb.size
  simp at hsr
  have j0 : wr.cell? ⟨w.heap.size,0,none⟩ = some (.bool r.num.neg) := by go_simp
  have j1 : wr.cell? ⟨w.heap.size,1,none⟩ = some (.slice R1 nR1 cR1) := by go_simp
  have j2 : wr.cell? ⟨w.heap.size,2,none⟩ = some (.slice R2 nR2 cR2) := by go_simp
  have hwl : w.heap.size < wr.heap.size := by omega
  clear hc_wr hf_wr hbb
  rcases Nat.lt_or_ge i n with hin | hin
  ·have hii : (i : Int) < n := by omega
   have him : (i : Int) < m := by omega
   obtain ⟨g,rfl⟩ : ∃ g,gk = g + 1 := ⟨gk - 1,by omega⟩
   have hi' := hid (show i + 1 + g = n by omega)
   have hi1 : i + 1 ≤ n := hin
   have C3 := hid (show i + 1 ≤ maxLen by unfold maxLen; omega)
   have C4 := hid (show (i + 1) * 56 ≤ 140737488355328 by omega)
   obtain ⟨be,oe,x,A1,n1,c1,s1,A2,n2,c2,s2,rfl,hbl,hx1,e0,e1,e2,hag⟩ := TRat.elemA (HX.out.below HBW.out) hin
   obtain ⟨bf,of,y,B1,m1,d1,t1,B2,m2,d2,t2,rfl,hbl2,hy1,f0,f1,f2,hbg⟩ := TRat.elemA (HY.out.below HBW.out) (show i < m by omega)
   have NX := hid (show (combL xs r ys).take (i + 1) = (combL xs r ys).take i ++ [radd x (rmul r y)] from take_step (by unfold combL; rw [List.getElem?_zipWith,hx1,hy1]))
   have HAG := hid hag; have HBG := hid hbg
   have LM := hid (lim24_add x (rmul r y))
   clear hi3 hin hag hx1 hbg hy1
   go_wp2_with fail
   have HBx := hid (show Below wr.heap.size wr (wr.alloc (.cells #[.bool x.num.neg, .slice A1 n1 c1, .slice A2 n2 c2] 32)) from Below.go)
   refine wp_region_line 11 (by kernel_rfl) (by kernel_rfl) (by kernel_rfl) (by kernel_rfl) (by kernel_rfl) ?_
   simp only [List.take_succ_cons,List.take_zero,List.drop_succ_cons,List.drop_zero]
   iterate 7
    apply walkM_eq
    case h =>
     intro yq zq wq hC hd
     obtain ⟨hcq,hfq⟩ := bcell hC
     simp at hd
     refine ⟨by go_simp; done, ?_⟩
     go_simp
     first | (go_ints; exact rfl) | (go_ints; rw [if_pos (by omega)]; try exact rfl) | exact rfl | (rw [if_pos (by omega)]; try exact rfl)
   refine walkM_call (MP.agg (rmul r y)) ?_ ?_
   ·intro yq zq wq hC hd
    obtain ⟨hcq,hfq⟩ := bcell hC
    simp at hd
    refine ⟨by go_simp; done, ?_⟩
    apply Exists.intro
    apply Exists.intro
    constructor
    ·go_simp
     exact ⟨rfl,rfl⟩
    ·exact gives_agg (impl_RatMul _ _ r y _ _ wq ((HRR.out.below HBW.out).below (Below.next HBx.out hC)) (HBG.out.below (Below.next HBx.out hC)))
   refine walkM_call (MP.agg (radd x (rmul r y))) ?_ ?_
   ·intro yq zq wq hC hd
    obtain ⟨hcq,hfq⟩ := bcell hC
    simp at hd
    refine ⟨by go_simp; done, ?_⟩
    apply Exists.intro
    apply Exists.intro
    constructor
    ·go_simp
     exact ⟨rfl,rfl⟩
    ·obtain ⟨_,t, _⟩ := hd
     exact gives_agg (impl_RatAdd _ _ x (rmul r y) _ _ wq (HAG.out.below (Below.next HBx.out hC)) t)
   refine walkM_call (MP.agg (radd x (rmul r y))) ?_ ?_
   ·intro yq zq wq hC hd
    obtain ⟨hcq,hfq⟩ := bcell hC
    simp at hd
    refine ⟨by go_simp; done, ?_⟩
    apply Exists.intro
    apply Exists.intro
    constructor
    ·go_simp
     exact ⟨rfl,rfl⟩
    ·exact gives_agg (impl_copyRat _ _ _ wq hd.1 (Nat.le_trans LM.out.1 (by decide)) (Nat.le_trans LM.out.2 (by decide)))
   refine walkM_runD (fun y' => MP.slbox (y' 9).cells 32) (by intro y y' h; simp [deps,depOf] at h; simp [h]) ?_ ?_
   ·intro yq zq wq hC hd
    simp at hd
    obtain ⟨D1,nD1,cD1,d1,D2,nD2,cD2,d2,e13, _, _, _⟩ := TRat.agg hd.1
    refine ⟨by go_simp; done, .slice (some ⟨wq.heap.size,0,none⟩) 1 1,wq.alloc (.cells (yq 9).cells 32), ?_,Below.box _, [wq.heap.size],⟨wq.heap.size,rfl,rfl,heap_alloc_new wq _⟩,by simp⟩
    rw [e13]
    go_simp
   intro yq zq wa hC hd hdis0
   have hdis := hid hdis0
   clear hdis0
   simp at hd
   have q0 := hd.1
   have q9 := hd.2.2.2.2.2.2.2.2.2.1
   have q10 := hd.2.2.2.2.2.2.2.2.2.2
   obtain ⟨⟨ha,hf⟩,hr⟩ := q9
   obtain ⟨G1,nG1,cG1,g1,G2,nG2,cG2,g2,e15,z15,m1,m2⟩ := TRat.agg ha
   obtain ⟨⟨gn,e16,z16,hgn⟩,hr16⟩ := q10
   rw [e15] at hgn ha
   have AT := hid (rat_dat ha)
   have HF := hid hf
   have HBa := hid (show Below wr.heap.size wr wa from Below.next HBx.out hC)
   have HR := hid (show ∀ b ∈ zq 9,wr.heap.size ≤ b from fun b hb => by have := (hr b hb).1; (try simp at this); omega)
   have HGN := hid hgn
   have e0 : yq 0 = .slice (some ⟨gB,0,none⟩) i cap := q0.1.1
   generalize zq 9 = r9 at *
   clear hd hdis ha hf hr z15 m1 m2 hgn hr16 z16 q0 hC
   go_wp2_with (at_builtin; refine wpList_pend rfl _ _ 36 rfl 32 i0 (.agg #[.bool false, .slice none 0 0, .slice none 0 0]) 56 Tryz.underlying36 hi hz0 hz1 hz2 rfl HP.out HBa.out (by go_simp; done) ⟨gn,0,none⟩ 1 [.bool (radd x (rmul r y)).num.neg, .slice G1 nG1 cG1, .slice G2 nG2 cG2] (radd x (rmul r y)) r9 (by go_simp; done) (block_cells HGN.out) AT.out HF.out HR.out C3.out C4.out ?_; intro g' cap' w8 hp' hgrow' hor')
   have HP8 := hid (show Pend w _ 32 w8 g' (i + 1) cap' ((combL xs r ys).take (i + 1)) by rw [NX.out]; exact hp')
   clear hp' hgrow' hor' AT HF HR HP
   go_wp2_with fail
   go_roundg g
   case measure => omega
   case rel => exact ⟨i + 1,g',cap',hi'.out,by go_num,rfl,HP8⟩
  ·obtain rfl : i = n := by omega
   have hii : ¬ ((i : Int) < i) := by omega
   have HLN := hid (show (combL xs r ys).length ≤ i by unfold combL; rw [List.length_zipWith,HX.out.1]; omega)
   clear hi3 hin
   go_wp2
   go_ret
   have := HP.out.done
   rwa [List.take_of_length_le HLN.out] at this
end Go.Proofs.YtpfipnankjeokaaGreat.X
namespace Go.Proofs.YtpfipnankjeokaaGreat.X
open Go.RowKit Go.XB Go.XN
structure AccSt (w U : World) (g r0 : Nat) (x : TRat) (P1 : Option Addr) (p1 q1 : Nat) (P2 : Option Addr) (p2 q2 : Nat) (rl : List Nat) : Prop where
 bl : Below w.heap.size w U
 rb : RBox U g x P1 p1 q1 P2 p2 q2
 ag : Agg U (.agg #[.bool x.num.neg, .slice P1 p1 q1, .slice P2 p2 q2]) x rl
 ow : Own w U rl
 dl : g ∉ rl ∧ r0 ∉ rl
 rs : U.heap[r0]? = some (.cells #[.bool false, .slice none 0 0, .slice none 0 0] 32)
 lo : w.heap.size ≤ r0 ∧ r0 < g
section
variable {w U U' : World} {g r0 : Nat} {x y : TRat} {P1 : Option Addr} {p1 q1 : Nat} {P2 : Option Addr} {p2 q2 : Nat} {rl ry : List Nat} {O1 : Option Addr} {o1 u1 : Nat} {O2 : Option Addr} {o2 u2 : Nat}
theorem AccSt.below (h : AccSt w U g r0 x P1 p1 q1 P2 p2 q2 rl) (hb : Below U.heap.size U U') : AccSt w U' g r0 x P1 p1 q1 P2 p2 q2 rl :=
 ⟨Below.next h.bl hb,h.rb.below hb,h.ag.below hb,h.ow.below hb,h.dl,heap_keep' h.rs hb,h.lo⟩
theorem AccSt.set (h : AccSt w U g r0 x P1 p1 q1 P2 p2 q2 rl) (ha : Agg U (.agg #[.bool y.num.neg, .slice O1 o1 u1, .slice O2 o2 u2]) y ry) (ho : Own w U ry) (hd : g ∉ ry ∧ r0 ∉ ry) :
  AccSt w (((U.setCell ⟨g,0,none⟩ (.bool y.num.neg)).setCell ⟨g,1,none⟩ (.slice O1 o1 u1)).setCell ⟨g,2,none⟩ (.slice O2 o2 u2)) g r0 y O1 o1 u1 O2 o2 u2 ry := by
 have hw : w.heap.size ≤ g := by have := h.lo; omega
 refine ⟨((h.bl.setCell (p := ⟨g,0,none⟩) hw _).setCell (p := ⟨g,1,none⟩) hw _).setCell (p := ⟨g,2,none⟩) hw _,h.rb.set,ha.keep (fun b hb => heap_set3 b (fun e => hd.1 (e ▸ hb))),⟨ho.1,fun b hb => ⟨(ho.2 b hb).1, ?_⟩⟩,hd,(heap_set3 _ (by have := h.lo; omega)).trans h.rs,h.lo⟩
 obtain ⟨cs,t,e⟩ := (ho.2 b hb).2
 exact ⟨cs,t,(heap_set3 (g := g) b (fun e' => hd.1 (e' ▸ hb))).trans e⟩
theorem AccSt.out (h : AccSt w U g r0 x P1 p1 q1 P2 p2 q2 rl) :
  GivesAgg w x (.returned (.agg #[.bool x.num.neg, .slice P1 p1 q1, .slice P2 p2 q2])) (((U.setCell ⟨r0,0,none⟩ (.bool x.num.neg)).setCell ⟨r0,1,none⟩ (.slice P1 p1 q1)).setCell ⟨r0,2,none⟩ (.slice P2 p2 q2)) := by
 have hw : w.heap.size ≤ r0 := h.lo.1
 refine ⟨_,rl,rfl,h.ag.keep (fun b hb => heap_set3 b (fun e => h.dl.2 (e ▸ hb))),⟨h.ow.1,fun b hb => ⟨(h.ow.2 b hb).1, ?_⟩⟩,((h.bl.setCell (p := ⟨r0,0,none⟩) hw _).setCell (p := ⟨r0,1,none⟩) hw _).setCell (p := ⟨r0,2,none⟩) hw _⟩
 obtain ⟨cs,t,e⟩ := (h.ow.2 b hb).2
 exact ⟨cs,t,(heap_set3 (g := r0) b (fun e' => h.dl.2 (e' ▸ hb))).trans e⟩
theorem own_free {w U : World} {lo : Nat} {rl : List Nat} (h : Free U rl) (hr : ∀ b ∈ rl,lo ≤ b) (hl : w.heap.size ≤ lo) : Own w U rl := ⟨h.1,fun b hb => ⟨Nat.le_trans hl (hr b hb),h.2 b hb⟩⟩
end
attribute [local go_sem] fillBy opAt deps depOf Region.wanted yielded
attribute [local simp] deps depOf MP.eq MP.agg MP.sl MP.slbox Facts
set_option maxHeartbeats 4000000 in
set_option maxRecDepth 10000 in
theorem impl_InnerVector (A : Option Addr) (n c : Nat) (xs : List TRat) (bs : List Nat) (B : Option Addr) (d : Nat) (ys : List TRat) (ds : List Nat) (w : World) (hx : Sl w A n c xs bs) (hy : Sl w B n d ys ds) :
  Calls Tryz.prog 25 #[.slice A n c, .slice B n d] w (GivesAgg w (innerL xs ys)) := by
 have HX := hid hx; have HY := hid hy
 have hnl : n ≤ maxLen := Nat.le_trans hx.2.1 hx.2.2.1
 unfold maxLen at hnl
 clear hx hy
 go_enter Tryz.func25,Tryz.ntmps25
 go_wp2_with fail
 refine (impl_RatFromInt 0 _ (by constructor <;> decide)).mono ?_
 rintro _ wa ⟨va,sa,rfl,haa,hoa,hba⟩
 obtain ⟨P1,p1,q1,e1,P2,p2,q2,e2,rfl,hz0', _, _⟩ := TRat.agg haa
 clear hz0'
 obtain ⟨hc_wa,hf_wa⟩ := bcell hba
 have hz0_wa : w.heap.size < wa.heap.size := by have := hba.size; (try simp at this); omega
 have hsza := hba.size
 simp at hsza
 have HA0 := hid (show AccSt w (wa.alloc (.cells #[.bool (rint 0).num.neg, .slice P1 p1 q1, .slice P2 p2 q2] 32)) wa.heap.size w.heap.size (innerTo xs ys 0) P1 p1 q1 P2 p2 q2 sa from
  ⟨Below.go,⟨by simp,⟨by go_simp; rfl,by go_simp,by go_simp⟩,⟨by go_simp,by go_simp,by go_simp⟩⟩,haa.below (Below.box _),(hoa.older (by simp)).below (Below.box _),⟨fun h => by have := haa.lt _ h; omega,fun h => by have := (hoa.2 _ h).1; simp at this; omega⟩,
  heap_keep' (heap_keep' (heap_alloc_new w _) hba) (Below.box _),by omega⟩)
 clear haa hoa hba hc_wa hf_wa hsza
 go_wp2_with fail
 generalize wa.heap.size = g0 at *
 go_loopg [17] n (fun g s wr => ∃ (k : Nat) (P1 : Option Addr) (p1 q1 : Nat) (P2 : Option Addr) (p2 q2 : Nat) (rl : List Nat),k + g = n ∧ s = .int .i64 k ∧ Hid (AccSt w wr g0 w.heap.size (innerTo xs ys k) P1 p1 q1 P2 p2 q2 rl))
 case atStart => exact ⟨0,P1,p1,q1,P2,p2,q2,sa,by omega,rfl,HA0.out⟩
 case round =>
  clear HA0
  obtain ⟨k,P1,p1,q1,P2,p2,q2,rl,hk,rfl,hst⟩ := hrel
  have hgs := hst.out.rb.1
  have HBW := hid hst.out.bl
  rcases Nat.lt_or_ge k n with hkn | hkn
  ·have hki : (k : Int) < n := by omega
   have hk1 : k + 1 ≤ n := hkn
   obtain ⟨g,rfl⟩ : ∃ g,gk = g + 1 := ⟨gk - 1,by omega⟩
   have hk' := hid (show k + 1 + g = n by omega)
   obtain ⟨be,oe,x,A1,n1,c1,s1,A2,n2,c2,s2,rfl,hbl,hx1,x0,x1,x2,hag⟩ := TRat.elemA (HX.out.below HBW.out) hkn
   obtain ⟨bf,of,y,B1,m1,d1,t1,B2,m2,d2,t2,rfl,hbl2,hy1,y0,y1,y2,hbg⟩ := TRat.elemA (HY.out.below HBW.out) hkn
   have NX := hid (show innerTo xs ys (k + 1) = radd (innerTo xs ys k) (rmul x y) by rw [innerTo,getD_of hx1,getD_of hy1])
   have HAG := hid hag; have HBG := hid hbg
   have S1 := hid (hst.out.below (Below.box (.cells #[.bool x.num.neg, .slice A1 n1 c1, .slice A2 n2 c2] 32)))
   obtain ⟨_,⟨z0,z1,z2⟩, _⟩ := hst.out.rb
   clear hk hkn hag hx1 hbg hy1
   go_wp2_with fail
   have HBx := hid (show Below wr.heap.size wr (wr.alloc (.cells #[.bool x.num.neg, .slice A1 n1 c1, .slice A2 n2 c2] 32)) from Below.go)
   refine wp_region_last (by simp) (by kernel_rfl) (by kernel_rfl) (by kernel_rfl) (by kernel_rfl) ?_
   dsimp only [List.dropLast,List.getLast,List.length]
   iterate 6
    apply walkM_eq
    case h =>
     intro yq zq wq hC hd
     obtain ⟨hcq,hfq⟩ := bcell hC
     simp at hd
     refine ⟨by go_simp; done, ?_⟩
     go_simp
     first | (go_ints; exact rfl) | (go_ints; rw [if_pos (by omega)]; try exact rfl) | exact rfl | (rw [if_pos (by omega)]; try exact rfl)
   refine walkM_call (MP.agg (rmul x y)) ?_ ?_
   ·intro yq zq wq hC hd
    obtain ⟨hcq,hfq⟩ := bcell hC
    simp at hd
    refine ⟨by go_simp; done, ?_⟩
    apply Exists.intro
    apply Exists.intro
    constructor
    ·go_simp
     exact ⟨rfl,rfl⟩
    ·exact gives_agg (impl_RatMul _ _ x y _ _ wq (HAG.out.below (Below.next HBx.out hC)) (HBG.out.below (Below.next HBx.out hC)))
   refine walkM_call (MP.agg (radd (innerTo xs ys k) (rmul x y))) ?_ ?_
   ·intro yq zq wq hC hd
    obtain ⟨hcq,hfq⟩ := bcell hC
    simp at hd
    refine ⟨by go_simp; done, ?_⟩
    apply Exists.intro
    apply Exists.intro
    constructor
    ·go_simp
     exact ⟨rfl,rfl⟩
    ·obtain ⟨_,t, _⟩ := hd
     exact gives_agg (impl_RatAdd _ _ (innerTo xs ys k) (rmul x y) _ _ wq (S1.out.ag.below hC) t)
   intro yq zq wb hC hd hdis0
   have hdis := hid hdis0
   clear hdis0
   simp at hd
   have q7 := hd.2.2.2.2.2.2.2
   obtain ⟨⟨ha7,hf7⟩,hr7⟩ := q7
   rw [← NX.out] at ha7
   obtain ⟨G1,nG1,cG1,w1',G2,nG2,cG2,w2',y7,hz7, _, _⟩ := TRat.agg ha7
   rw [y7] at ha7
   have A7 := hid ha7
   have Sb := hid (S1.out.below hC)
   have hlow := hst.out.lo
   have hsw := HBW.out.size
   have Sn := hid (Sb.out.set A7.out (own_free hf7 (fun b hb => (hr7 b hb).1) (by omega)) ⟨fun h => by have := (hr7 _ h).1; omega,fun h => by have := (hr7 _ h).1; omega⟩)
   have hgb : g0 < wb.heap.size := by have := hC.size; simp at this; omega
   obtain ⟨_,⟨v0,v1,v2⟩,⟨v3,v4,v5⟩⟩ := Sb.out.rb
   generalize zq 7 = r7 at *
   clear hd hdis ha7 hf7 hr7 hz7 hC S1 hst Sb hlow z0 z1 z2 x0 x1 x2 y0 y1 y2
   go_wp2_with fail
   go_roundg g
   case measure => omega
   case rel => exact ⟨k + 1,G1,nG1,cG1,G2,nG2,cG2,r7,hk'.out,by go_num,Sn.out⟩
  ·obtain rfl : k = n := by omega
   have hii : ¬ ((k : Int) < k) := by omega
   have HOUT := hid hst.out.out
   have EN := hid (show innerTo xs ys k = innerL xs ys by unfold innerL; rw [HX.out.1])
   obtain ⟨_,⟨v0,v1,v2⟩, _⟩ := hst.out.rb
   have hlo := hst.out.lo
   have hr1 : w.heap.size < wr.heap.size := by omega
   obtain ⟨r0,r1,r2⟩ : wr.cell? ⟨w.heap.size,0,none⟩ = some (.bool false) ∧ wr.cell? ⟨w.heap.size,1,none⟩ = some (.slice none 0 0) ∧ wr.cell? ⟨w.heap.size,2,none⟩ = some (.slice none 0 0) := ⟨(box_cell hst.out.rs rfl).1,(box_cell hst.out.rs rfl).1,(box_cell hst.out.rs rfl).1⟩
   obtain ⟨r3,r4,r5⟩ : wr.frozen? ⟨w.heap.size,0,none⟩ = false ∧ wr.frozen? ⟨w.heap.size,1,none⟩ = false ∧ wr.frozen? ⟨w.heap.size,2,none⟩ = false := ⟨(box_cell hst.out.rs rfl).2,(box_cell hst.out.rs rfl).2,(box_cell hst.out.rs rfl).2⟩
   clear hk hkn hst
   go_wp2
   refine bodyPost_ret (v := .agg #[.bool (innerTo xs ys k).num.neg, .slice P1 p1 q1, .slice P2 p2 q2]) (by simp [results,Tryz.results25,go_sem, *]) rfl ?_
   rw [← EN.out]
   exact HOUT.out
end Go.Proofs.YtpfipnankjeokaaGreat.X
namespace Go.Proofs.YtpfipnankjeokaaGreat.X
open Go.RowKit Go.XB Go.XN
structure ProbI (p : TProblem) (xs ys : List Int) : Prop where
 mesh : MeshI p.mesh xs ys
 dl : p.diffusion.length = 3
 dok : p.diffusion.all ratOkB = true
 dpos : ∀ r ∈ p.diffusion,0 < numv r
 sl : p.source.length = 3
 sok : p.source.all ratOkB = true
 reg : ∀ t ∈ p.mesh.triangles,0 ≤ t.region ∧ t.region < 3
attribute [local go_sem] fillBy opAt deps depOf Region.wanted yielded
attribute [local simp] deps depOf MP.eq MP.agg MP.sl MP.slbox Facts
theorem known_hasCoefficients_1 : Known 199 := fun a w => by kernel_rfl
set_option maxHeartbeats 1000000 in
theorem impl_hasCoefficients_1 (v : Value) (x : TRat) (b : List Nat) (w : World) (hx : Agg w v x b) (ho : ratOkB x = true) (hp : 0 < numv x) : Calls Tryz.prog 199 #[v] w (Gives w (.bool false)) := by
 have HX := hid hx; have VR := hid (ratOkB_iff.1 ho)
 have E := hid (show rsignV x = 1 by unfold rsignV sgn; rw [if_neg (by omega),if_pos hp])
 obtain ⟨A1,n1,c1,s1,A2,n2,c2,s2,rfl,rfl,hs1,hs2⟩ := TRat.agg hx
 clear hs1 hs2 hx ho hp
 go_enter Tryz.func199,Tryz.ntmps199
 go_wp2_with fail
 have C := impl_sign _ x _ _ (HX.out.below (Below.box (.cells #[.bool x.num.neg, .slice A1 n1 c1, .slice A2 n2 c2] 32))) VR.out.mag (negOk_of VR.out.num)
 rw [E.out] at C
 refine C.mono ?_
 clear C
 rintro _ w1 ⟨rfl,hb1⟩
 go_wp2
 go_ret
 exact ⟨rfl,Below.trans (Below.box _) (hb1.mono (by simp))⟩
set_option maxHeartbeats 1000000 in
theorem impl_hasCoefficients (v : Value) (p : TProblem) (b : List Nat) (xs ys : List Int) (w : World) (hx : Agg w v p b) (hp : ProbI p xs ys) : Calls Tryz.prog 177 #[v] w (Gives w (.bool true)) := by
 have HX := hid hx; have HP := hid hp
 obtain ⟨A0,n0,c0,s0,A1,n1,c1,s1,A2,n2,c2,s2,A3,n3,c3,s3,rfl,rfl,hs0,hs1,hs2,hs3⟩ := TProblem.agg hx
 have H2 := hid hs2; have H3 := hid hs3
 obtain rfl : 3 = n2 := by rw [← hs2.1]; exact hp.dl.symm
 obtain rfl : 3 = n3 := by rw [← hs3.1]; exact hp.sl.symm
 clear hs0 hs1 hs2 hs3 hx hp
 go_enter Tryz.func177,Tryz.ntmps177
 go_wp2_with fail
 refine (impl_isVector A2 3 c2 p.diffusion s2 _ (H2.out.below Below.go) HP.out.dok).mono ?_
 rintro _ w1 ⟨rfl,hb1⟩
 obtain ⟨hc_w1,hf_w1⟩ := bcell hb1
 have hz0_w1 : w.heap.size < w1.heap.size := by have := hb1.size; (try simp at this); omega
 have HB1 := hid (show Below w.heap.size w w1 from Below.go)
 go_wp2_with fail
 refine (impl_isVector A3 3 c3 p.source s3 w1 (H3.out.below HB1.out) HP.out.sok).mono ?_
 rintro _ w2 ⟨rfl,hb2⟩
 obtain ⟨hc_w2,hf_w2⟩ := bcell hb2
 have hz0_w2 : w.heap.size < w2.heap.size := by have := hb2.size; (try simp at this); omega
 have HB2 := hid (Below.next HB1.out hb2)
 go_wp2_with fail
 have C := contains_rats 199 known_hasCoefficients_1 A2 3 c2 p.diffusion s2 w2 (fun _ => false) (H2.out.below HB2.out) (fun v x b w hm h => impl_hasCoefficients_1 v x b w h (List.all_eq_true.1 HP.out.dok x hm) (HP.out.dpos x hm))
 rw [show p.diffusion.any (fun _ => false) = false by simp] at C
 refine C.mono ?_
 clear C
 rintro _ w3 ⟨rfl,hb3⟩
 go_wp2
 go_ret
 exact ⟨rfl,Below.next HB2.out hb3⟩
set_option maxHeartbeats 1000000 in
theorem impl_IsProblem (v : Value) (p : TProblem) (b : List Nat) (xs ys : List Int) (w : World) (hx : Agg w v p b) (hp : ProbI p xs ys) : Calls Tryz.prog 143 #[v] w (Gives w (.bool true)) := by
 have HX := hid hx; have HP := hid hp
 obtain ⟨A0,n0,c0,s0,A1,n1,c1,s1,A2,n2,c2,s2,A3,n3,c3,s3,rfl,rfl,hs0,hs1,hs2,hs3⟩ := TProblem.agg hx
 have HM := hid (TMesh.mkAgg (x := p.mesh) hs0 hs1)
 clear hs0 hs1 hs2 hs3 hx hp
 go_enter Tryz.func143,Tryz.ntmps143
 go_wp2_with fail
 refine (impl_hasCoefficients _ p _ xs ys _ (HX.out.below Below.go) HP.out).mono ?_
 rintro _ w1 ⟨rfl,hb1⟩
 obtain ⟨hc_w1,hf_w1⟩ := bcell hb1
 have hz0_w1 : w.heap.size < w1.heap.size := by have := hb1.size; (try simp at this); omega
 have HB1 := hid (show Below w.heap.size w w1 from Below.go)
 go_wp2_with fail
 refine (impl_IsMesh _ p.mesh _ xs ys w1 (HM.out.below HB1.out) HP.out.mesh).mono ?_
 rintro _ w2 ⟨rfl,hb2⟩
 go_wp2
 go_ret
 exact ⟨rfl,Below.next HB1.out hb2⟩
set_option maxHeartbeats 1000000 in
theorem impl_isValues (v : Value) (p : TProblem) (b : List Nat) (xs ys : List Int) (B : Option Addr) (m d : Nat) (us : List TRat) (ds : List Nat) (w : World) (hx : Agg w v p b) (hp : ProbI p xs ys) (hu : Sl w B m d us ds) (huo : us.all ratOkB = true) (hm : m = p.mesh.points.length) : Calls Tryz.prog 110 #[v, .slice B m d] w (Gives w (.bool true)) := by
 have HX := hid hx; have HP := hid hp; have HU := hid hu; have HUO := hid huo
 obtain ⟨A0,n0,c0,s0,A1,n1,c1,s1,A2,n2,c2,s2,A3,n3,c3,s3,rfl,rfl,hs0,hs1,hs2,hs3⟩ := TProblem.agg hx
 obtain rfl : m = n0 := by rw [hm]; exact hs0.1
 clear hs0 hs1 hs2 hs3 hx hp hu huo hm
 go_enter Tryz.func110,Tryz.ntmps110
 go_wp2_with fail
 refine (impl_isVector B m d us ds _ (HU.out.below Below.go) HUO.out).mono ?_
 rintro _ w1 ⟨rfl,hb1⟩
 obtain ⟨hc_w1,hf_w1⟩ := bcell hb1
 have hz0_w1 : w.heap.size < w1.heap.size := by have := hb1.size; (try simp at this); omega
 have HB1 := hid (show Below w.heap.size w w1 from Below.go)
 go_wp2_with fail
 refine (impl_IsProblem _ p _ xs ys w1 (HX.out.below HB1.out) HP.out).mono ?_
 rintro _ w2 ⟨rfl,hb2⟩
 go_wp2
 go_ret
 exact ⟨rfl,Below.next HB1.out hb2⟩
set_option maxHeartbeats 1000000 in
theorem impl_isHeat (v : Value) (p : TProblem) (b : List Nat) (xs ys : List Int) (B : Option Addr) (m d : Nat) (us : List TRat) (ds : List Nat) (vt : Value) (tau : TRat) (bt : List Nat) (w : World) (hx : Agg w v p b) (hp : ProbI p xs ys) (hu : Sl w B m d us ds) (huo : us.all ratOkB = true) (hm : m = p.mesh.points.length) (ht : Agg w vt tau bt) (hs : rsign tau = 1) :
  Calls Tryz.prog 67 #[v, .slice B m d,vt] w (Gives w (.bool true)) := by
 have HX := hid hx; have HP := hid hp; have HU := hid hu; have HUO := hid huo; have HM := hid hm; have HT := hid ht; have HS := hid hs
 obtain ⟨A0,n0,c0,s0,A1,n1,c1,s1,A2,n2,c2,s2,A3,n3,c3,s3,rfl,rfl,hs0,hs1,hs2,hs3⟩ := TProblem.agg hx
 obtain ⟨T1,nT1,cT1,t1,T2,nT2,cT2,t2,rfl,rfl,ht1,ht2⟩ := TRat.agg ht
 clear hs0 hs1 hs2 hs3 hx hp hu huo hm ht hs ht1 ht2
 go_enter Tryz.func67,Tryz.ntmps67
 go_wp2_with fail
 refine (impl_isValues _ p _ xs ys B m d us ds _ (HX.out.below Below.go) HP.out (HU.out.below Below.go) HUO.out HM.out).mono ?_
 rintro _ w1 ⟨rfl,hb1⟩
 obtain ⟨hc_w1,hf_w1⟩ := bcell hb1
 have hz0_w1 : w.heap.size < w1.heap.size := by have := hb1.size; (try simp at this); omega
 have hz1_w1 : w.heap.size + 1 < w1.heap.size := by have := hb1.size; (try simp at this); omega
 have HB1 := hid (show Below w.heap.size w w1 from Below.go)
 go_wp2_with fail
 have C := impl_RatSign _ tau _ w1 (HT.out.below HB1.out)
 rw [HS.out] at C
 refine C.mono ?_
 clear C
 rintro _ w2 ⟨rfl,hb2⟩
 go_wp2
 go_ret
 exact ⟨rfl,Below.next HB1.out hb2⟩
set_option maxHeartbeats 4000000 in
set_option maxRecDepth 10000 in
theorem impl_diffusion (v : Value) (p : TProblem) (b : List Nat) (k : Nat) (t : TTri) (w : World) (hx : Agg w v p b) (hk : p.mesh.triangles[k]? = some t) (hl : p.diffusion.length = 3) (hr : 0 ≤ t.region ∧ t.region < 3) :
  Calls Tryz.prog 158 #[v, .int .i64 k] w (GivesS w (p.diffusion.getD t.region.toNat zeroR)) := by
 have HX := hid hx
 obtain ⟨A0,n0,c0,s0,A1,n1,c1,s1,A2,n2,c2,s2,A3,n3,c3,s3,rfl,rfl,hs0,hs1,hs2,hs3⟩ := TProblem.agg hx
 have hkn : k < n1 := by rw [← hs1.1]; exact (List.getElem?_eq_some_iff.1 hk).1
 have hml : n1 ≤ maxLen := Nat.le_trans hs1.2.1 hs1.2.2.1
 unfold maxLen at hml
 obtain rfl : 3 = n2 := by rw [← hs2.1]; exact hl.symm
 obtain ⟨hr0,hr1⟩ := hr
 obtain ⟨be,oe,x,rfl,hbl,hx1,e0,e1,e2,e3,e4, _⟩ := TTri.elemA hs1 hkn
 obtain rfl : x = t := by rw [hk] at hx1; exact (Option.some.inj hx1).symm
 obtain ⟨j,hj⟩ : ∃ j : Nat,x.region = j := ⟨x.region.toNat,by omega⟩
 have hj3 : j < 3 := by omega
 have hki : (k : Int) < n1 := by omega
 obtain ⟨bf,of,y,D1,nD1,cD1,d1,D2,nD2,cD2,d2,rfl,hblf,hy,f0,f1,f2,hag⟩ := TRat.elemA hs2 hj3
 have E := hid (show p.diffusion.getD x.region.toNat zeroR = y by rw [hj]; exact getD_of hy)
 have HAG := hid hag
 have hb2 : be < w.heap.size + 1 + 1 := by omega
 have hf2 : bf < w.heap.size + 1 + 1 := by omega
 rw [hj] at e3 hr0 hr1
 clear hs0 hs1 hs2 hs3 hx hk hl hx1 hy hag hj
 go_enter Tryz.func158,Tryz.ntmps158
 go_wp2_with fail
 refine wp_region_last (by simp) (by kernel_rfl) (by kernel_rfl) (by kernel_rfl) (by kernel_rfl) ?_
 dsimp only [List.dropLast,List.getLast,List.length]
 iterate 11
  apply walkM_eq
  case h =>
   intro yq zq wq hC hd
   obtain ⟨hcq,hfq⟩ := bcell hC
   simp at hd
   refine ⟨by go_simp; done, ?_⟩
   go_simp
   first | (go_ints; exact rfl) | (go_ints; rw [if_pos (by omega)]; try exact rfl) | exact rfl | (rw [if_pos (by omega)]; try exact rfl)
 intro yq zq wa hC hd hdis0
 have hdis := hid hdis0
 clear hdis0
 simp at hd
 go_simp
 have HBa := hid (show Below w.heap.size w wa from Below.go)
 obtain ⟨hc_wa,hf_wa⟩ := bcell hC
 have hz0_wa : w.heap.size < wa.heap.size := by have := hC.size; (try simp at this); omega
 have hz1_wa : w.heap.size + 1 < wa.heap.size := by have := hC.size; (try simp at this); omega
 clear hd hdis
 go_wp2
 refine bodyPost_ret (v := .agg #[.bool y.num.neg, .slice D1 nD1 cD1, .slice D2 nD2 cD2]) (by simp [results,Tryz.results158,go_sem, *]) rfl ?_
 refine ⟨_,d1 ++ d2,rfl, ?_,Below.go⟩
 rw [E.out]
 exact HAG.out.below Below.go
set_option maxHeartbeats 4000000 in
set_option maxRecDepth 10000 in
theorem impl_source (v : Value) (p : TProblem) (b : List Nat) (k : Nat) (t : TTri) (w : World) (hx : Agg w v p b) (hk : p.mesh.triangles[k]? = some t) (hl : p.source.length = 3) (hr : 0 ≤ t.region ∧ t.region < 3) :
  Calls Tryz.prog 150 #[v, .int .i64 k] w (GivesS w (p.source.getD t.region.toNat zeroR)) := by
 have HX := hid hx
 obtain ⟨A0,n0,c0,s0,A1,n1,c1,s1,A2,n2,c2,s2,A3,n3,c3,s3,rfl,rfl,hs0,hs1,hs2,hs3⟩ := TProblem.agg hx
 have hkn : k < n1 := by rw [← hs1.1]; exact (List.getElem?_eq_some_iff.1 hk).1
 have hml : n1 ≤ maxLen := Nat.le_trans hs1.2.1 hs1.2.2.1
 unfold maxLen at hml
 obtain rfl : 3 = n3 := by rw [← hs3.1]; exact hl.symm
 obtain ⟨hr0,hr1⟩ := hr
 obtain ⟨be,oe,x,rfl,hbl,hx1,e0,e1,e2,e3,e4, _⟩ := TTri.elemA hs1 hkn
 obtain rfl : x = t := by rw [hk] at hx1; exact (Option.some.inj hx1).symm
 obtain ⟨j,hj⟩ : ∃ j : Nat,x.region = j := ⟨x.region.toNat,by omega⟩
 have hj3 : j < 3 := by omega
 have hki : (k : Int) < n1 := by omega
 obtain ⟨bf,of,y,D1,nD1,cD1,d1,D2,nD2,cD2,d2,rfl,hblf,hy,f0,f1,f2,hag⟩ := TRat.elemA hs3 hj3
 have E := hid (show p.source.getD x.region.toNat zeroR = y by rw [hj]; exact getD_of hy)
 have HAG := hid hag
 have hb2 : be < w.heap.size + 1 + 1 := by omega
 have hf2 : bf < w.heap.size + 1 + 1 := by omega
 rw [hj] at e3 hr0 hr1
 clear hs0 hs1 hs2 hs3 hx hk hl hx1 hy hag hj
 go_enter Tryz.func150,Tryz.ntmps150
 go_wp2_with fail
 refine wp_region_last (by simp) (by kernel_rfl) (by kernel_rfl) (by kernel_rfl) (by kernel_rfl) ?_
 dsimp only [List.dropLast,List.getLast,List.length]
 iterate 11
  apply walkM_eq
  case h =>
   intro yq zq wq hC hd
   obtain ⟨hcq,hfq⟩ := bcell hC
   simp at hd
   refine ⟨by go_simp; done, ?_⟩
   go_simp
   first | (go_ints; exact rfl) | (go_ints; rw [if_pos (by omega)]; try exact rfl) | exact rfl | (rw [if_pos (by omega)]; try exact rfl)
 intro yq zq wa hC hd hdis0
 have hdis := hid hdis0
 clear hdis0
 simp at hd
 go_simp
 have HBa := hid (show Below w.heap.size w wa from Below.go)
 obtain ⟨hc_wa,hf_wa⟩ := bcell hC
 have hz0_wa : w.heap.size < wa.heap.size := by have := hC.size; (try simp at this); omega
 have hz1_wa : w.heap.size + 1 < wa.heap.size := by have := hC.size; (try simp at this); omega
 clear hd hdis
 go_wp2
 refine bodyPost_ret (v := .agg #[.bool y.num.neg, .slice D1 nD1 cD1, .slice D2 nD2 cD2]) (by simp [results,Tryz.results150,go_sem, *]) rfl ?_
 refine ⟨_,d1 ++ d2,rfl, ?_,Below.go⟩
 rw [E.out]
 exact HAG.out.below Below.go
end Go.Proofs.YtpfipnankjeokaaGreat.X
