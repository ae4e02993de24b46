/- midPoints of the program. -/
import Derived.Test.YthlpjpcnpcclhaaGreatXPr1
import Derived.Test.YthlpjpcnpcclhaaGreatXPush0
namespace Go.XB
open Go.RowKit
/-- a row of one structure, in a block of its own -/
def MP.slbox (cs : Array Value) (t : TypeId) : MP := ⟨fun v bs w => ∃ g, v = .slice (some ⟨g, 0, none⟩) 1 1 ∧ bs = [g] ∧ w.heap[g]? = some (.cells cs t), fun v bs w w' hb h => by
  obtain ⟨g, e, hz, hg⟩ := h; exact ⟨g, e, hz, (hb.block g (lt_of_get hg)).trans hg⟩⟩
section
variable {P : Program} {l : List Oper} {a0 : Act}
/-- an operation that gives a value that is spoken of by what it was given -/
theorem walkM_runD {w0 : World} {F : List DP → Prop} {o : Oper} {os : List Oper} {acc : List DP} (m : DP) (hcg : Cong m (deps o))
    (h : ∀ (y : Nat → Value) (z : Nat → List Nat) (w : World), Below w0.heap.size w0 w → (∀ k ∈ deps o, (acc.getD k (fun _ => MP.eq undef) y).p (y k) (z k) w) →
      Region.wanted o (yielded l.toArray (fillBy l y a0 (deps o)).tmps) = true ∧ ∃ v w', (execOp (fillBy l y a0 (deps o)).eval o).run P w = .ok (.value v) w' ∧ Below w.heap.size w w' ∧ ∃ bs, (m y).p v bs w' ∧ ∀ b ∈ bs, w.heap.size ≤ b ∧ b < w'.heap.size)
    (hr : walkM P l w0 a0 F os (acc ++ [m])) : walkM P l w0 a0 F (o :: os) acc := by
  refine ⟨m, hcg, fun y z w hC hd => ?_, hr⟩
  obtain ⟨h1, v, w', h2, h3⟩ := h y z w hC hd
  rw [if_pos h1]
  unfold gives
  rw [h2]
  exact h3
end
theorem block_cells {w : World} {g : Nat} {arr : Array Value} {t : TypeId} (h : w.heap[g]? = some (.cells arr t)) : ∀ j u, arr.toList[j]? = some u → w.cell? ((⟨g, 0, none⟩ : Addr).add j) = some u := by
  intro j u hu
  have e : (⟨g, 0, none⟩ : Addr).add j = ⟨g, j, none⟩ := by unfold Addr.add; split <;> simp_all
  rw [e]
  exact (box_cell h (by simpa using hu)).1
end Go.XB
namespace Go.Proofs.YthlpjpcnpcclhaaGreat.X
open Go.RowKit Go.XB Go.XN
attribute [local go_sem] fillBy opAt deps depOf Region.wanted yielded
attribute [local simp] deps depOf MP.eq MP.agg MP.sl Facts
set_option linter.constructorNameAsVariable false

theorem infoPt : (Tryz.prog.info? 57).map (fun i => (i.zero, i.size, i.bytes)) = some (some (.agg #[.bool false, .slice none 0 0, .slice none 0 0, .bool false, .slice none 0 0, .slice none 0 0]), 6, 112) := by kernel_rfl
theorem push_own {w wr wa w8 : World} {gB g' k : Nat} {cells cs : List Value} {fss : List (List Nat)} {ps : List TPoint} {pt : TPoint} {z : List Nat} (hfil : Filled wr cells ps fss) (hlen : ps.length = k) (hcl : cells.length = k * 6) (how : Own w wr fss.flatten) (hnot : gB ∉ fss.flatten) (hb : Below w.heap.size w wr) (hgB : gB < wr.heap.size) (hbase : w.heap.size ≤ gB)
    (hC : Below wr.heap.size wr wa) (ha : Dat.at_ wa cs pt z) (hf : Free wa z) (hr : ∀ b ∈ z, wr.heap.size ≤ b) (hg : wa.grownBy w8 (some gB)) (hor : g' = gB ∨ g' = wa.heap.size) :
    Filled w8 (cells ++ cs) (ps ++ [pt]) (fss ++ [z]) ∧ Own w w8 (fss ++ [z]).flatten ∧ g' ∉ (fss ++ [z]).flatten ∧ Below w.heap.size w w8 ∧ (ps ++ [pt]).length = k + 1 := by
  have hsz := hC.size
  have hzl : ∀ b ∈ z, b < wa.heap.size := Dat.lt ha
  have hfl : ∀ b ∈ fss.flatten, b < wr.heap.size := how.lt
  have k1 : ∀ b ∈ fss.flatten, w8.heap[b]? = wr.heap[b]? := fun b hb1 => (hg.block b (by have := hfl b hb1; omega) (by intro e; injection e with e; exact hnot (e ▸ hb1))).trans (hC.block b (hfl b hb1))
  have k2 : ∀ b ∈ z, w8.heap[b]? = wa.heap[b]? := fun b hb1 => hg.block b (hzl b hb1) (by intro e; injection e with e; have := hr b hb1; omega)
  have hz : (fss ++ [z]).flatten = fss.flatten ++ z := by simp
  refine ⟨Filled.push (hfil.keep k1) (by rw [hcl, hlen]; rfl) (Dat.keep ha k2), ?_, ?_, ?_, by simp [hlen]⟩
  · rw [hz]
    refine Own.append ⟨how.1, fun b hb1 => ⟨(how.2 b hb1).1, by obtain ⟨cs, t, e⟩ := (how.2 b hb1).2; exact ⟨cs, t, (k1 b hb1).trans e⟩⟩⟩ ⟨hf.1, fun b hb1 => ⟨by have := hr b hb1; have := hb.size; omega, by obtain ⟨cs, t, e⟩ := hf.2 b hb1; exact ⟨cs, t, (k2 b hb1).trans e⟩⟩⟩ ?_
    exact apart_of_lt hfl hr
  · rw [hz]
    intro h
    rcases List.mem_append.1 h with h | h
    · rcases hor with h2 | h2
      · exact hnot (h2 ▸ h)
      · have := hfl _ h; omega
    · rcases hor with h2 | h2
      · have := hr _ h; omega
      · have := hzl _ h; omega
  · exact (Below.next hb hC).grown hg (by have := hb.size; omega) (fun k2 hk2 => by injection hk2 with h; subst h; exact hbase)
theorem push_done {w wr : World} {gB k cap : Nat} {cells : List Value} {fss : List (List Nat)} {ps : List TPoint} (hown : wr.ownsRow w.heap.size 57 6 (.slice (some ⟨gB, 0, none⟩) k cap) k cells) (hfil : Filled wr cells ps fss) (hlen : ps.length = k) (how : Own w wr fss.flatten) (hnot : gB ∉ fss.flatten) (hb : Below w.heap.size w wr) : GivesSl w ps (.returned (.slice (some ⟨gB, 0, none⟩) k cap)) wr := by
  obtain ⟨A', c', bs', hv, hs, ho⟩ := hfil.sl (α := TPoint) hown hlen
  refine ⟨A', k, c', bs', by rw [← hv], hs, own_of_row (n := k) (fss := fss) ?_ how, hb⟩
  rcases ho with ho | ⟨g, h1, h2, h3, h4⟩
  · exact .inl ho
  · refine .inr ⟨g, h2, h3, h4, fun hg => ?_⟩
    have e : gB = g := by simpa [Value.ownBlock] using h1
    exact hnot (e ▸ hg)

set_option maxHeartbeats 4000000 in
set_option maxRecDepth 10000 in
theorem impl_midPoints (A : Option Addr) (c : Nat) (a1 b1 c1 : TPoint) (bs : List Nat) (w : World) (hx : Sl w A 3 c [a1, b1, c1] bs) :
    Calls Tryz.prog 31 #[.slice A 3 c] w (GivesSl w [pmid b1 c1, pmid c1 a1, pmid a1 b1]) := by
  have HX := hid hx
  obtain ⟨i0, hi, hz0, hz1, hz2⟩ := info_parts infoPt
  obtain ⟨be0, of0, a2, P1, nP1, cP1, p1, P2, nP2, cP2, p2, P4, nP4, cP4, p4, P5, nP5, cP5, p5, hA0, hbl0, hx0, Pe0, Pe1, Pe2, Pe3, Pe4, Pe5, hg0⟩ := TPoint.elemA HX.out (show 0 < 3 by decide)
  obtain ⟨be1, of1, b2, Q1, nQ1, cQ1, q1, Q2, nQ2, cQ2, q2, Q4, nQ4, cQ4, q4, Q5, nQ5, cQ5, q5, hA1, hbl1, hx1, Qe0, Qe1, Qe2, Qe3, Qe4, Qe5, hg1⟩ := TPoint.elemA HX.out (show 1 < 3 by decide)
  obtain ⟨be2, of2, c2, R1, nR1, cR1, r1, R2, nR2, cR2, r2, R4, nR4, cR4, r4, R5, nR5, cR5, r5, hA2, hbl2, hx2, Re0, Re1, Re2, Re3, Re4, Re5, hg2⟩ := TPoint.elemA HX.out (show 2 < 3 by decide)
  subst hA0
  injection hA1 with hA1; injection hA1 with h1 h2 _; subst h1; subst h2
  injection hA2 with hA2; injection hA2 with h1 h2 _; subst h1; subst h2
  simp at hx0 hx1 hx2
  subst hx0; subst hx1; subst hx2
  simp at Pe0 Pe1 Pe2 Pe3 Pe4 Pe5 Qe0 Qe1 Qe2 Qe3 Qe4 Qe5 Re0 Re1 Re2 Re3 Re4 Re5
  have HA := hid hg0; have HB := hid hg1; have HC := hid hg2
  clear hbl1 hbl2 hg0 hg1 hg2 hx
  go_enter Tryz.func31, Tryz.ntmps31
  go_wp2_with fail
  go_loopg [3, 8] 3 (fun g v s wr => ∃ (k gB cap : Nat) (cells : List Value) (fss : List (List Nat)), k + g = 3 ∧ s = .int .i64 k ∧ v = .slice (some ⟨gB, 0, none⟩) k cap ∧ Hid (wr.ownsRow w.heap.size 57 6 (.slice (some ⟨gB, 0, none⟩) k cap) k cells) ∧ Hid (Filled wr cells ([pmid b1 c1, pmid c1 a1, pmid a1 b1].take k) fss) ∧ Hid (([pmid b1 c1, pmid c1 a1, pmid a1 b1].take k).length = k) ∧ Hid (Own w wr fss.flatten) ∧ Hid (gB ∉ fss.flatten) ∧ Hid (w.heap.size ≤ gB) ∧ Below w.heap.size w wr)
  case atStart => exact ⟨0, w.heap.size, 0, [], [], rfl, rfl, rfl, World.ownsRow_made w #[] 0 (Nat.le_refl _) (Nat.zero_le _) rfl, Filled.nil _ _, rfl, Own.nil _ _, (show w.heap.size ∉ ([] : List (List Nat)).flatten by simp), Nat.le_refl _, Below.box _⟩
  case round =>
    obtain ⟨k, gB, cap, cells, fss, hk, rfl, rfl, hown, hfil, hlen, how, hnot, hbase, hb⟩ := hrel
    obtain rfl | rfl | rfl | rfl : k = 0 ∨ k = 1 ∨ k = 2 ∨ k = 3 := by omega
    · obtain rfl : gk = 2 + 1 := by omega
      have hrowlt := (World.ownsRow.lt hown.out _ rfl).2
      have C3 := hid (show 0 + 1 ≤ maxLen by decide)
      have C4 := hid (show (0 + 1) * 112 ≤ 140737488355328 by decide)
      have hbr : be0 < wr.heap.size := by have := hb.size; omega
      obtain ⟨hc_wr, hf_wr⟩ := bcell hb
      have HB0 := hid hb
      clear hk hb
      go_wp2_with fail
      refine wp_region_line 15 (by kernel_rfl) (by kernel_rfl) (by kernel_rfl) (by kernel_rfl) (by kernel_rfl) ?_
      simp only [List.take_succ_cons, List.take_zero, List.drop_succ_cons, List.drop_zero]
      iterate 13
        apply walkM_eq
        case h =>
          intro yq zq wq hC hd
          obtain ⟨hcq, hfq⟩ := bcell hC
          simp at hd
          refine ⟨by go_simp; done, ?_⟩
          go_simp
          first | (go_ints; exact rfl) | (go_ints; rw [if_pos (by omega)]; try exact rfl) | exact rfl | (rw [if_pos (by omega)]; try exact rfl)
      refine walkM_call (MP.agg (pmid b1 c1)) ?_ ?_
      · intro yq zq wq hC hd
        obtain ⟨hcq, hfq⟩ := bcell hC
        simp at hd
        refine ⟨by go_simp; done, ?_⟩
        apply Exists.intro
        apply Exists.intro
        constructor
        · go_simp
          exact ⟨rfl, rfl⟩
        · exact gives_agg (impl_Middle _ _ b1 c1 _ _ wq ((HB.out.below HB0.out).below hC) ((HC.out.below HB0.out).below hC))
      refine walkM_runD (fun y' => MP.slbox (y' 13).cells 57) (by intro y y' h; simp [deps, depOf] at h; simp [h]) ?_ ?_
      · intro yq zq wq hC hd
        simp at hd
        obtain ⟨D1, nD1, cD1, d1, D2, nD2, cD2, d2, D4, nD4, cD4, d4, D5, nD5, cD5, d5, e13, _, _, _, _, _⟩ := TPoint.agg hd.1
        refine ⟨by go_simp; done, .slice (some ⟨wq.heap.size, 0, none⟩) 1 1, wq.alloc (.cells (yq 13).cells 57), ?_, Below.box _, [wq.heap.size], ⟨wq.heap.size, rfl, rfl, heap_alloc_new wq _⟩, by simp⟩
        rw [e13]
        go_simp
      intro yq zq wa hC hd hdis0
      have hdis := hid hdis0
      clear hdis0
      simp at hd
      have q0 := hd.1
      have q13 := hd.2.2.2.2.2.2.2.2.2.2.2.2.2.1
      have q14 := hd.2.2.2.2.2.2.2.2.2.2.2.2.2.2
      obtain ⟨⟨ha, hf⟩, hr⟩ := q13
      obtain ⟨D1, nD1, cD1, d1, D2, nD2, cD2, d2, D4, nD4, cD4, d4, D5, nD5, cD5, d5, e13, z13, k1, k2, k4, k5⟩ := TPoint.agg ha
      obtain ⟨⟨gn, e14, z14, hgn⟩, hr14⟩ := q14
      rw [e13] at hgn
      have AT := hid (show Dat.at_ wa [.bool (pmid b1 c1).x.num.neg, .slice D1 nD1 cD1, .slice D2 nD2 cD2, .bool (pmid b1 c1).y.num.neg, .slice D4 nD4 cD4, .slice D5 nD5 cD5] (pmid b1 c1) (zq 13) by rw [z13]; exact TPoint.shut k1 k2 k4 k5)
      have HF := hid hf; have HR := hid (show ∀ b ∈ zq 13, wr.heap.size ≤ b from fun b hb => (hr b hb).1)
      have HGN := hid hgn
      have e0 : yq 0 = .slice (some ⟨gB, 0, none⟩) 0 cap := q0.1.1
      have hownA := ownsRow_below hown.out hC
      have HCC := hid hC
      have WL := hid (show w.heap.size ≤ wa.heap.size by have := HB0.out.size; have := hC.size; omega)
      clear hd hdis ha hf hr z13 k1 k2 k4 k5 hgn hr14 z14 q0
      go_wp2_with (at_builtin; refine wpList_push rfl _ _ 24 rfl w.heap.size 57 i0 (.agg #[.bool false, .slice none 0 0, .slice none 0 0, .bool false, .slice none 0 0, .slice none 0 0]) 6 112 Tryz.underlying24 hi hz0 hz1 hz2 rfl (by decide) gB 0 cap cells (by go_simp; done) hownA ⟨gn, 0, none⟩ 1 1 [.bool (pmid b1 c1).x.num.neg, .slice D1 nD1 cD1, .slice D2 nD2 cD2, .bool (pmid b1 c1).y.num.neg, .slice D4 nD4 cD4, .slice D5 nD5 cD5] (by go_simp; done) rfl (block_cells HGN.out) (Dat.one AT.out) C3.out C4.out WL.out ?_; intro g' cap' w8 hown' hgrow' hor')
      have P := hid (push_own hfil.out hlen.out (by have := hown.out.1; omega) how.out hnot.out HB0.out hrowlt hbase.out HCC.out AT.out HF.out HR.out hgrow' hor')
      have OW := hid hown'
      have BA := hid (show w.heap.size ≤ g' from by have := (World.ownsRow.lt hown' _ rfl).1; exact this)
      clear hown' hgrow' hor' hownA
      generalize (cells ++ [.bool (pmid b1 c1).x.num.neg, .slice D1 nD1 cD1, .slice D2 nD2 cD2, .bool (pmid b1 c1).y.num.neg, .slice D4 nD4 cD4, .slice D5 nD5 cD5] : List Value) = cells2 at OW P
      go_wp2_with fail
      go_roundg 2
      case measure => omega
      case rel => exact ⟨0 + 1, g', cap', cells2, (fss ++ [zq 13] : List (List Nat)), rfl, by go_num, rfl, OW.out, (show Filled w8 _ ([pmid b1 c1, pmid c1 a1, pmid a1 b1].take (0 + 1)) _ from P.out.1), rfl, P.out.2.1, P.out.2.2.1, BA.out, P.out.2.2.2.1⟩
    · obtain rfl : gk = 1 + 1 := by omega
      have hrowlt := (World.ownsRow.lt hown.out _ rfl).2
      have C3 := hid (show 1 + 1 ≤ maxLen by decide)
      have C4 := hid (show (1 + 1) * 112 ≤ 140737488355328 by decide)
      have hbr : be0 < wr.heap.size := by have := hb.size; omega
      obtain ⟨hc_wr, hf_wr⟩ := bcell hb
      have HB0 := hid hb
      clear hk hb
      go_wp2_with fail
      refine wp_region_line 15 (by kernel_rfl) (by kernel_rfl) (by kernel_rfl) (by kernel_rfl) (by kernel_rfl) ?_
      simp only [List.take_succ_cons, List.take_zero, List.drop_succ_cons, List.drop_zero]
      iterate 13
        apply walkM_eq
        case h =>
          intro yq zq wq hC hd
          obtain ⟨hcq, hfq⟩ := bcell hC
          simp at hd
          refine ⟨by go_simp; done, ?_⟩
          go_simp
          first | (go_ints; exact rfl) | (go_ints; rw [if_pos (by omega)]; try exact rfl) | exact rfl | (rw [if_pos (by omega)]; try exact rfl)
      refine walkM_call (MP.agg (pmid c1 a1)) ?_ ?_
      · intro yq zq wq hC hd
        obtain ⟨hcq, hfq⟩ := bcell hC
        simp at hd
        refine ⟨by go_simp; done, ?_⟩
        apply Exists.intro
        apply Exists.intro
        constructor
        · go_simp
          exact ⟨rfl, rfl⟩
        · exact gives_agg (impl_Middle _ _ c1 a1 _ _ wq ((HC.out.below HB0.out).below hC) ((HA.out.below HB0.out).below hC))
      refine walkM_runD (fun y' => MP.slbox (y' 13).cells 57) (by intro y y' h; simp [deps, depOf] at h; simp [h]) ?_ ?_
      · intro yq zq wq hC hd
        simp at hd
        obtain ⟨D1, nD1, cD1, d1, D2, nD2, cD2, d2, D4, nD4, cD4, d4, D5, nD5, cD5, d5, e13, _, _, _, _, _⟩ := TPoint.agg hd.1
        refine ⟨by go_simp; done, .slice (some ⟨wq.heap.size, 0, none⟩) 1 1, wq.alloc (.cells (yq 13).cells 57), ?_, Below.box _, [wq.heap.size], ⟨wq.heap.size, rfl, rfl, heap_alloc_new wq _⟩, by simp⟩
        rw [e13]
        go_simp
      intro yq zq wa hC hd hdis0
      have hdis := hid hdis0
      clear hdis0
      simp at hd
      have q0 := hd.1
      have q13 := hd.2.2.2.2.2.2.2.2.2.2.2.2.2.1
      have q14 := hd.2.2.2.2.2.2.2.2.2.2.2.2.2.2
      obtain ⟨⟨ha, hf⟩, hr⟩ := q13
      obtain ⟨D1, nD1, cD1, d1, D2, nD2, cD2, d2, D4, nD4, cD4, d4, D5, nD5, cD5, d5, e13, z13, k1, k2, k4, k5⟩ := TPoint.agg ha
      obtain ⟨⟨gn, e14, z14, hgn⟩, hr14⟩ := q14
      rw [e13] at hgn
      have AT := hid (show Dat.at_ wa [.bool (pmid c1 a1).x.num.neg, .slice D1 nD1 cD1, .slice D2 nD2 cD2, .bool (pmid c1 a1).y.num.neg, .slice D4 nD4 cD4, .slice D5 nD5 cD5] (pmid c1 a1) (zq 13) by rw [z13]; exact TPoint.shut k1 k2 k4 k5)
      have HF := hid hf; have HR := hid (show ∀ b ∈ zq 13, wr.heap.size ≤ b from fun b hb => (hr b hb).1)
      have HGN := hid hgn
      have e0 : yq 0 = .slice (some ⟨gB, 0, none⟩) 1 cap := q0.1.1
      have hownA := ownsRow_below hown.out hC
      have HCC := hid hC
      have WL := hid (show w.heap.size ≤ wa.heap.size by have := HB0.out.size; have := hC.size; omega)
      clear hd hdis ha hf hr z13 k1 k2 k4 k5 hgn hr14 z14 q0
      go_wp2_with (at_builtin; refine wpList_push rfl _ _ 24 rfl w.heap.size 57 i0 (.agg #[.bool false, .slice none 0 0, .slice none 0 0, .bool false, .slice none 0 0, .slice none 0 0]) 6 112 Tryz.underlying24 hi hz0 hz1 hz2 rfl (by decide) gB 1 cap cells (by go_simp; done) hownA ⟨gn, 0, none⟩ 1 1 [.bool (pmid c1 a1).x.num.neg, .slice D1 nD1 cD1, .slice D2 nD2 cD2, .bool (pmid c1 a1).y.num.neg, .slice D4 nD4 cD4, .slice D5 nD5 cD5] (by go_simp; done) rfl (block_cells HGN.out) (Dat.one AT.out) C3.out C4.out WL.out ?_; intro g' cap' w8 hown' hgrow' hor')
      have P := hid (push_own hfil.out hlen.out (by have := hown.out.1; omega) how.out hnot.out HB0.out hrowlt hbase.out HCC.out AT.out HF.out HR.out hgrow' hor')
      have OW := hid hown'
      have BA := hid (show w.heap.size ≤ g' from by have := (World.ownsRow.lt hown' _ rfl).1; exact this)
      clear hown' hgrow' hor' hownA
      generalize (cells ++ [.bool (pmid c1 a1).x.num.neg, .slice D1 nD1 cD1, .slice D2 nD2 cD2, .bool (pmid c1 a1).y.num.neg, .slice D4 nD4 cD4, .slice D5 nD5 cD5] : List Value) = cells2 at OW P
      go_wp2_with fail
      go_roundg 1
      case measure => omega
      case rel => exact ⟨1 + 1, g', cap', cells2, (fss ++ [zq 13] : List (List Nat)), rfl, by go_num, rfl, OW.out, (show Filled w8 _ ([pmid b1 c1, pmid c1 a1, pmid a1 b1].take (1 + 1)) _ from P.out.1), rfl, P.out.2.1, P.out.2.2.1, BA.out, P.out.2.2.2.1⟩
    · obtain rfl : gk = 0 + 1 := by omega
      have hrowlt := (World.ownsRow.lt hown.out _ rfl).2
      have C3 := hid (show 2 + 1 ≤ maxLen by decide)
      have C4 := hid (show (2 + 1) * 112 ≤ 140737488355328 by decide)
      have hbr : be0 < wr.heap.size := by have := hb.size; omega
      obtain ⟨hc_wr, hf_wr⟩ := bcell hb
      have HB0 := hid hb
      clear hk hb
      go_wp2_with fail
      refine wp_region_line 15 (by kernel_rfl) (by kernel_rfl) (by kernel_rfl) (by kernel_rfl) (by kernel_rfl) ?_
      simp only [List.take_succ_cons, List.take_zero, List.drop_succ_cons, List.drop_zero]
      iterate 13
        apply walkM_eq
        case h =>
          intro yq zq wq hC hd
          obtain ⟨hcq, hfq⟩ := bcell hC
          simp at hd
          refine ⟨by go_simp; done, ?_⟩
          go_simp
          first | (go_ints; exact rfl) | (go_ints; rw [if_pos (by omega)]; try exact rfl) | exact rfl | (rw [if_pos (by omega)]; try exact rfl)
      refine walkM_call (MP.agg (pmid a1 b1)) ?_ ?_
      · intro yq zq wq hC hd
        obtain ⟨hcq, hfq⟩ := bcell hC
        simp at hd
        refine ⟨by go_simp; done, ?_⟩
        apply Exists.intro
        apply Exists.intro
        constructor
        · go_simp
          exact ⟨rfl, rfl⟩
        · exact gives_agg (impl_Middle _ _ a1 b1 _ _ wq ((HA.out.below HB0.out).below hC) ((HB.out.below HB0.out).below hC))
      refine walkM_runD (fun y' => MP.slbox (y' 13).cells 57) (by intro y y' h; simp [deps, depOf] at h; simp [h]) ?_ ?_
      · intro yq zq wq hC hd
        simp at hd
        obtain ⟨D1, nD1, cD1, d1, D2, nD2, cD2, d2, D4, nD4, cD4, d4, D5, nD5, cD5, d5, e13, _, _, _, _, _⟩ := TPoint.agg hd.1
        refine ⟨by go_simp; done, .slice (some ⟨wq.heap.size, 0, none⟩) 1 1, wq.alloc (.cells (yq 13).cells 57), ?_, Below.box _, [wq.heap.size], ⟨wq.heap.size, rfl, rfl, heap_alloc_new wq _⟩, by simp⟩
        rw [e13]
        go_simp
      intro yq zq wa hC hd hdis0
      have hdis := hid hdis0
      clear hdis0
      simp at hd
      have q0 := hd.1
      have q13 := hd.2.2.2.2.2.2.2.2.2.2.2.2.2.1
      have q14 := hd.2.2.2.2.2.2.2.2.2.2.2.2.2.2
      obtain ⟨⟨ha, hf⟩, hr⟩ := q13
      obtain ⟨D1, nD1, cD1, d1, D2, nD2, cD2, d2, D4, nD4, cD4, d4, D5, nD5, cD5, d5, e13, z13, k1, k2, k4, k5⟩ := TPoint.agg ha
      obtain ⟨⟨gn, e14, z14, hgn⟩, hr14⟩ := q14
      rw [e13] at hgn
      have AT := hid (show Dat.at_ wa [.bool (pmid a1 b1).x.num.neg, .slice D1 nD1 cD1, .slice D2 nD2 cD2, .bool (pmid a1 b1).y.num.neg, .slice D4 nD4 cD4, .slice D5 nD5 cD5] (pmid a1 b1) (zq 13) by rw [z13]; exact TPoint.shut k1 k2 k4 k5)
      have HF := hid hf; have HR := hid (show ∀ b ∈ zq 13, wr.heap.size ≤ b from fun b hb => (hr b hb).1)
      have HGN := hid hgn
      have e0 : yq 0 = .slice (some ⟨gB, 0, none⟩) 2 cap := q0.1.1
      have hownA := ownsRow_below hown.out hC
      have HCC := hid hC
      have WL := hid (show w.heap.size ≤ wa.heap.size by have := HB0.out.size; have := hC.size; omega)
      clear hd hdis ha hf hr z13 k1 k2 k4 k5 hgn hr14 z14 q0
      go_wp2_with (at_builtin; refine wpList_push rfl _ _ 24 rfl w.heap.size 57 i0 (.agg #[.bool false, .slice none 0 0, .slice none 0 0, .bool false, .slice none 0 0, .slice none 0 0]) 6 112 Tryz.underlying24 hi hz0 hz1 hz2 rfl (by decide) gB 2 cap cells (by go_simp; done) hownA ⟨gn, 0, none⟩ 1 1 [.bool (pmid a1 b1).x.num.neg, .slice D1 nD1 cD1, .slice D2 nD2 cD2, .bool (pmid a1 b1).y.num.neg, .slice D4 nD4 cD4, .slice D5 nD5 cD5] (by go_simp; done) rfl (block_cells HGN.out) (Dat.one AT.out) C3.out C4.out WL.out ?_; intro g' cap' w8 hown' hgrow' hor')
      have P := hid (push_own hfil.out hlen.out (by have := hown.out.1; omega) how.out hnot.out HB0.out hrowlt hbase.out HCC.out AT.out HF.out HR.out hgrow' hor')
      have OW := hid hown'
      have BA := hid (show w.heap.size ≤ g' from by have := (World.ownsRow.lt hown' _ rfl).1; exact this)
      clear hown' hgrow' hor' hownA
      generalize (cells ++ [.bool (pmid a1 b1).x.num.neg, .slice D1 nD1 cD1, .slice D2 nD2 cD2, .bool (pmid a1 b1).y.num.neg, .slice D4 nD4 cD4, .slice D5 nD5 cD5] : List Value) = cells2 at OW P
      go_wp2_with fail
      go_roundg 0
      case measure => omega
      case rel => exact ⟨2 + 1, g', cap', cells2, (fss ++ [zq 13] : List (List Nat)), rfl, by go_num, rfl, OW.out, (show Filled w8 _ ([pmid b1 c1, pmid c1 a1, pmid a1 b1].take (2 + 1)) _ from P.out.1), rfl, P.out.2.1, P.out.2.2.1, BA.out, P.out.2.2.2.1⟩
    · have HB0 := hid hb
      clear hk hb
      go_wp2
      go_ret
      exact push_done hown.out hfil.out hlen.out how.out hnot.out HB0.out
end Go.Proofs.YthlpjpcnpcclhaaGreat.X
