/- Part of a claim's proof: texts of this repository's wip,joined by prune.py,without the theorems that the claim does not reach. -/
import Derived.Test.YtpfipnankjeokaaGreatY16
import Derived.Test.YtpfipnankjeokaaGreatY12
set_option linter.constructorNameAsVariable false
namespace Go.Proofs.YtpfipnankjeokaaGreat.X
open Go.RowKit Go.XB Go.XN
def etriTo (es : List TEdge) (k : Int) (t : TTri) : Nat → List TEdge
 | 0 => es
 | 1 => eside es k t.a t.b
 | 2 => eside (eside es k t.a t.b) k t.b t.c
 | _ => etri es k t
theorem etriTo_len (es : List TEdge) (k : Int) (t : TTri) (i : Nat) : (etriTo es k t i).length ≤ es.length + 3 := by
 have h1 := eside_len es k t.a t.b
 have h2 := eside_len (eside es k t.a t.b) k t.b t.c
 have h3 := eside_len (eside (eside es k t.a t.b) k t.b t.c) k t.c t.a
 unfold etriTo
 split
 ·omega
 ·omega
 ·omega
 ·unfold etri; omega
theorem edges_own {w wr : World} {g n cap : Nat} {cells : List Value} {es : List TEdge} {bs : List Nat} (h : wr.ownsRow (w.heap.size + 1) 71 4 (.slice (some ⟨g,0,none⟩) n cap) n cells) (hs : Sl wr (some ⟨g,0,none⟩) n cap es bs) : Own w wr bs := by
 obtain ⟨h1,h2,h3,h4,h5⟩ := hs
 rcases Nat.eq_zero_or_pos n with h0 | h0
 ·rw [h4 h0]; exact Own.nil _ _
 ·obtain ⟨b,off,bss,hA,rfl,hl,hbl,he⟩ := h5 h0
  have hfl : bss.flatten = [] := by
   rw [List.flatten_eq_nil_iff]
   intro l hl'
   obtain ⟨k,hk⟩ := List.mem_iff_getElem?.1 hl'
   have hkl : k < es.length := by rw [← hl]; exact (List.getElem?_eq_some_iff.1 hk).1
   obtain ⟨cs, _,ha⟩ := he k _ l (List.getElem?_eq_getElem hkl) hk
   exact (TEdge.open_ ha).2.1
  rw [hfl]
  cases hA
  rcases h.2 with ⟨h', _⟩ | ⟨g',cap',cur,hv,hb,hg, _⟩
  ·cases h'
  ·cases hv
   exact ⟨by simp,fun x hx => by simp at hx; subst hx; exact ⟨by omega, _, _,hg⟩⟩
attribute [local go_sem] fillBy opAt deps depOf Region.wanted yielded
attribute [local simp] deps depOf MP.eq MP.agg MP.sl MP.slc Facts
attribute [local go_sem] ix0 ix1 ix2

set_option maxHeartbeats 8000000 in
set_option maxRecDepth 10000 in
theorem impl_edges (v : Value) (m : TMesh) (b : List Nat) (w : World) (hx : Agg w v m b) (hm : m.triangles.length ≤ 48) :
  Calls Tryz.prog 32 #[v] w (GivesSl w (edgesL m.triangles)) := by
 obtain ⟨A0,n0,c0,s0,A1,n1,c1,s1,rfl,rfl,hs0,hs1⟩ := TMesh.agg hx
 have HS := hid hs1
 have HL := hid hs1.1
 have hn1 : n1 ≤ 48 := by rw [← hs1.1]; exact hm
 obtain ⟨i0,hi,hz0,hz1,hz2⟩ := info_parts infoEd
 clear hx hs0 hs1 hm
 obtain ⟨ts,hts⟩ : ∃ ts,m.triangles = ts := ⟨_,rfl⟩
 rw [hts] at HS HL ⊢
 clear hts
 go_enter Tryz.func32,Tryz.ntmps32
 go_wp2_with fail
 go_loopg [3,17] n1 (fun g s3 s17 wr => ∃ (k gB cap L : Nat),k + g = n1 ∧ s17 = .int .i64 k ∧ s3 = .slice (some ⟨gB,0,none⟩) L cap ∧ Hid ((edgesTo ts k).length = L) ∧ Hid (wr.ownsRow (w.heap.size + 1) 71 4 (.slice (some ⟨gB,0,none⟩) L cap) L ((edgesTo ts k).flatMap encE)) ∧ Hid (∀ e ∈ edgesTo ts k,edgeOk e) ∧ Below (w.heap.size + 1) (w.alloc (.cells #[.slice A0 n0 c0, .slice A1 n1 c1] 26)) wr)
 case atStart =>
  refine ⟨0,w.heap.size + 1,0,0,by omega,rfl,rfl, ?_, ?_, ?_, ?_⟩
  ·show ([] : List TEdge).length = 0; rfl
  ·have := World.ownsRow_made (base := w.heap.size + 1) (e := 71) (size := 4) (w.alloc (.cells #[.slice A0 n0 c0, .slice A1 n1 c1] 26)) #[] 0 (by simp) (Nat.zero_le _) rfl
   rw [World.size_alloc] at this
   exact this
  ·show ∀ e ∈ ([] : List TEdge),edgeOk e; intro e he; cases he
  ·exact (Below.refl _ _).alloc (by simp) _
 case round =>
  obtain ⟨k,gB,cap,L,hk,rfl,rfl,hL,hrow,hok,hb⟩ := hrel
  have HBW := hid (show Below w.heap.size w wr from (Below.box (.cells #[.slice A0 n0 c0, .slice A1 n1 c1] 26)).trans (hb.mono (by omega)))
  rcases Nat.lt_or_ge k n1 with hkn | hkn
  ·obtain ⟨g,rfl⟩ : ∃ g,gk = g + 1 := ⟨gk - 1,by omega⟩
   have hk' := hid (show k + 1 + g = n1 by omega)
   have hki : (k : Int) < n1 := by omega
   have hk48 : (k : Int) ≤ 48 := by omega
   obtain ⟨be,of,t,rfl,hbl,hx1,e0,e1,e2,e3,e4,hag⟩ := TTri.elemA (HS.out.below HBW.out) hkn
   have HX1 := hid hx1; have HAG := hid hag; have HB := hid hb
   clear hk hkn hx1 hag hb
   go_wp2_with fail
   refine (impl_corners _ t _ _ (HAG.out.below (Below.box _))).mono ?_
   rintro _ w1 ⟨rfl,hb1⟩
   obtain ⟨hc_w1,hf_w1⟩ := bcell hb1
   obtain ⟨es0,hes0⟩ : ∃ es,edgesTo ts k = es := ⟨_,rfl⟩
   rw [hes0] at hL hrow hok
   have NX := hid (show edgesTo ts (k + 1) = etri es0 k t by rw [edgesTo,List.getD_eq_getElem?_getD,HX1.out,hes0]; rfl)
   have HE0 := hid (show es0.length ≤ 3 * k by rw [← hes0]; exact edgesTo_len ts k)
   have hk48' : k ≤ 48 := by omega
   have ITT := hid (show I64 t.a ∧ I64 t.b ∧ I64 t.c from by obtain ⟨_, _,i1,i2,i3, _, _⟩ := TTri.agg HAG.out; exact ⟨i1,i2,i3⟩)
   have IK := hid (show I64 (k : Int) by constructor <;> omega)
   have HBx1 := hid (show Below wr.heap.size wr w1 from Below.trans (Below.box _) (hb1.mono (by simp)))
   have R1 := hid (ownsRow_below hrow.out HBx1.out)
   have HB1 := hid (HB.out.trans (HBx1.out.mono (by have := HB.out.size; simp at this; omega)))
   have hne1 := (World.ownsRow.lt R1.out _ rfl).2
   clear hes0
   go_wp2_with fail
   go_loopg [3,25] 3 (fun g s3 s25 wr => ∃ (i gC cap2 L2 : Nat),i + g = 3 ∧ s25 = .int .i64 i ∧ s3 = .slice (some ⟨gC,0,none⟩) L2 cap2 ∧ Hid ((etriTo es0 k t i).length = L2) ∧ Hid (wr.ownsRow (w.heap.size + 1) 71 4 (.slice (some ⟨gC,0,none⟩) L2 cap2) L2 ((etriTo es0 k t i).flatMap encE)) ∧ Hid (∀ e ∈ etriTo es0 k t i,edgeOk e) ∧ gC ≠ w1.heap.size ∧ Below (w.heap.size + 1) (w.alloc (.cells #[.slice A0 n0 c0, .slice (some ⟨be,of,none⟩) n1 c1] 26)) wr ∧ w1.heap.size < wr.heap.size ∧ (wr.cell? ⟨w1.heap.size,0,none⟩ = some (.int .i64 t.a) ∧ wr.cell? ⟨w1.heap.size,1,none⟩ = some (.int .i64 t.b) ∧ wr.cell? ⟨w1.heap.size,2,none⟩ = some (.int .i64 t.c)))
   case atStart => exact ⟨0,gB,cap,L,rfl,rfl,rfl,hL.out,ownsRow_below R1.out (Below.box _),hok.out,by omega,HB1.out.alloc (by have := HB1.out.size; simp at this; omega) _,by simp,⟨by go_simp,by go_simp,by go_simp⟩⟩
   case round =>
   clear hc_w1 hf_w1 hL hrow hok R1 hne1
   obtain ⟨i,gC,cap2,L2,hi2,rfl,rfl,hL2,hr2,ho2,hne,hbi,hsi,⟨b0,b1,b2⟩⟩ := hrel
   have HBi := hid hbi
   clear hbi
   obtain rfl | rfl | rfl | rfl : i = 0 ∨ i = 1 ∨ i = 2 ∨ i = 3 := by omega

   ·obtain rfl : gk = 2 + 1 := by omega
    obtain ⟨es,hes⟩ : ∃ es,etriTo es0 k t 0 = es := ⟨_,rfl⟩
    rw [hes] at hL2 hr2 ho2
    have EES := hid hes
    have HL2 := hid hL2.out
    have hid_ok0 := hid (show ∀ e ∈ etriTo es0 k t (0 + 1),edgeOk e from by show ∀ e ∈ eside (etriTo es0 k t 0) k (t.a) (t.b),edgeOk e; rw [hes]; exact eside_ok IK.out ITT.out.1 ITT.out.2.1 ho2.out)
    obtain ⟨lo,hlo⟩ : ∃ l,min (t.a) (t.b) = l := ⟨_,rfl⟩
    obtain ⟨hi_,hhi⟩ : ∃ l,max (t.a) (t.b) = l := ⟨_,rfl⟩
    have HK := hid (show enew (t.a) (t.b) = ⟨lo,hi_, -1, -1⟩ by unfold enew; rw [hlo,hhi])
    have EOK := hid (show edgeOk ⟨lo,hi_, -1, -1⟩ by rw [← HK.out]; exact enew_ok ITT.out.1 ITT.out.2.1)
    obtain ⟨p,hp⟩ : ∃ p,bsAt es (enew (t.a) (t.b)) = p := ⟨_,rfl⟩
    have P := hid hp
    have PLE := hid (show p ≤ L2 by rw [← hp, ← HL2.out]; exact bsAt_le _ _)
    have hple : (p : Int) ≤ L2 := by have := PLE.out; omega
    obtain ⟨bs2,hsl2, _⟩ := row_edges hr2.out HL2.out ho2.out
    have SL2 := hid hsl2
    have LB := hid (show L2 ≤ 65536 by have := etriTo_len es0 k t 0; rw [hes,HL2.out] at this; have := HE0.out; have := hk48'; omega)
    have hL2i : (L2 : Int) ≤ 65536 := by have := LB.out; omega
    have hgC := (World.ownsRow.lt hr2.out _ rfl)
    have hgC1 : gC < wr.heap.size := hgC.2
    have C := search_edges (some ⟨gC,0,none⟩) L2 cap2 es bs2 (.agg #[.int .i64 lo, .int .i64 hi_, .int .i64 (-1), .int .i64 (-1)]) ⟨lo,hi_, -1, -1⟩ [] (wr.alloc (.cells #[.int .i64 lo, .int .i64 hi_, .int .i64 (-1), .int .i64 (-1)] 71)) (SL2.out.below (Below.box _)) LB.out (TEdge.mkAgg (x := ⟨lo,hi_, -1, -1⟩) EOK.out.1 EOK.out.2.1 EOK.out.2.2.1 EOK.out.2.2.2)
    rw [← HK.out,hp] at C
    have CC := hid C
    clear C hes hp hsl2 hL2 hgC hi2
    cases hF : bsIn es (enew (t.a) (t.b))
    ·have F := hid hF
     clear hF
     by_cases hab : t.a < t.b
     ·have AB := hid (show decide (t.a < t.b) = true by simp [hab])
      go_wp2_with fail
      have C := CC.out
      rw [F.out] at C
      refine C.mono ?_
      clear C CC
      rintro _ w2 ⟨rfl,hb2⟩
      obtain ⟨hc_w2,hf_w2⟩ := bcell hb2
      have HBx := hid (show Below wr.heap.size wr w2 from Below.trans (Below.box _) (hb2.mono (by simp)))
      have hs2 : wr.heap.size < w2.heap.size := by have := hb2.size; simp at this; omega
      have hs21 : w1.heap.size < w2.heap.size := by omega
      have hs2g : gC < w2.heap.size := by omega
      have R2 := hid (ownsRow_below hr2.out HBx.out)
      have HB2 := hid (HBi.out.trans (HBx.out.mono (by have := HBi.out.size; simp at this; omega)))
      go_wp2_with fail
      have VB := hid (heap_alloc_new w2 (.cells #[.int .i64 lo, .int .i64 hi_, .int .i64 (-1), .int .i64 (-1)] 71))
      refine (insert_row (w.heap.size + 1) gC L2 cap2 w2.heap.size p (es.flatMap encE) [.int .i64 lo, .int .i64 hi_, .int .i64 (-1), .int .i64 (-1)] (w2.alloc (.cells #[.int .i64 lo, .int .i64 hi_, .int .i64 (-1), .int .i64 (-1)] 71)) (ownsRow_below R2.out (Below.box _)) (by have := HB2.out.size; simp at this; simp; omega) LB.out PLE.out VB.out rfl (by intro v hv; simp at hv; rcases hv with rfl | rfl | rfl | rfl <;> rfl) encE_one (by omega)).mono ?_
      rintro _ w3 ⟨g5,cap5,rfl,hr3,hg3,ho3⟩
      have R3 := hid (show w3.ownsRow (w.heap.size + 1) 71 4 (.slice (some ⟨g5,0,none⟩) (L2 + 1) cap5) (L2 + 1) ((eput es p (enew (t.a) (t.b))).flatMap encE) by rw [encE_put (by rw [HL2.out]; exact PLE.out),HK.out]; exact hr3)
      have HL3 := hid (show (eput es p (enew (t.a) (t.b))).length = L2 + 1 by rw [eput_len (by rw [HL2.out]; exact PLE.out),HL2.out])
      have HB3 := hid ((HB2.out.alloc (by have := HB2.out.size; simp at this; omega) (.cells #[.int .i64 lo, .int .i64 hi_, .int .i64 (-1), .int .i64 (-1)] 71)).grown hg3 (by have := HB2.out.size; simp at this; simp; omega) (fun k2 hk2 => by injection hk2 with h; subst h; exact (World.ownsRow.lt R2.out _ rfl).1))
      have hne5 : g5 ≠ w1.heap.size := fun e => ho3.elim (fun h => hne (h ▸ e)) (fun h => by simp at h; omega)
      have hs3 : w2.heap.size + 1 ≤ w3.heap.size := by have := hg3.size; simp at this; exact this
      have hs31 : w1.heap.size < w3.heap.size := by omega
      have hblk := hg3.block w1.heap.size (by simp; omega) (by intro e; injection e with e; exact hne e.symm)
      have d0 : w3.cell? ⟨w1.heap.size,0,none⟩ = some (.int .i64 t.a) := (World.cell?_of_block (a := ⟨w1.heap.size,0,none⟩) hblk).trans (by go_simp)
      have d1 : w3.cell? ⟨w1.heap.size,1,none⟩ = some (.int .i64 t.b) := (World.cell?_of_block (a := ⟨w1.heap.size,1,none⟩) hblk).trans (by go_simp)
      have d2 : w3.cell? ⟨w1.heap.size,2,none⟩ = some (.int .i64 t.c) := (World.cell?_of_block (a := ⟨w1.heap.size,2,none⟩) hblk).trans (by go_simp)
      clear hr3 hg3 ho3 hblk hc_w2 hf_w2 b0 b1 b2
      have PL := hid (show p < (eput es p (enew (t.a) (t.b))).length by rw [HL3.out]; have := PLE.out; omega)
      obtain ⟨row9,gr9,⟨u9,cu9⟩,fr9⟩ := row_set (n := (L2 + 1)) R3.out (i := p * 4 + 2) (by rw [encE_len]; have := PL.out; omega) (.int .i64 k)
      rw [show ((eput es p (enew (t.a) (t.b))).flatMap encE).set (p * 4 + 2) (.int .i64 (k : Int)) = (etriTo es0 k t (0 + 1)).flatMap encE by
       rw [show etriTo es0 k t (0 + 1) = (eput es p (enew (t.a) (t.b))).modify p (emark k true) by
        show eside (etriTo es0 k t 0) k (t.a) (t.b) = _
        rw [EES.out]; unfold eside; simp only [P.out,F.out,AB.out]; rfl]
       exact (encE_mark k true _ p PL.out).symm] at row9
      have R9 := hid row9
      have L9 := hid (show (etriTo es0 k t (0 + 1)).length = (L2 + 1) by
       show (eside (etriTo es0 k t 0) k (t.a) (t.b)).length = _
       rw [EES.out]; unfold eside; simp only [P.out,F.out,List.length_modify]; exact HL3.out)
      have HB9 := hid (show Below (w.heap.size + 1) (w.alloc (.cells #[.slice A0 n0 c0, .slice (some ⟨be,of,none⟩) n1 c1] 26)) (w3.setCell ⟨g5,p * 4 + 2,none⟩ (.int .i64 k)) from HB3.out.setCell (p := ⟨g5,p * 4 + 2,none⟩) (show w.heap.size + 1 ≤ g5 from (World.ownsRow.lt R3.out _ rfl).1) _)
      have hgs : g5 < w3.heap.size := (World.ownsRow.lt R3.out _ rfl).2
      have hpi : (p : Int) < L2 + 1 := by have := PL.out; have := HL3.out; omega
      clear row9 gr9
      go_wp2_with fail
      go_roundg 2
      case measure => omega
      case rel => exact ⟨0 + 1,g5, _,(L2 + 1),rfl,by go_num,rfl,L9.out,R9.out,hid_ok0,hne5,HB9.out,by simp; omega,⟨by go_simp,by go_simp,by go_simp⟩⟩
     ·have AB := hid (show decide (t.a < t.b) = false by simp; omega)
      go_wp2_with fail
      have C := CC.out
      rw [F.out] at C
      refine C.mono ?_
      clear C CC
      rintro _ w2 ⟨rfl,hb2⟩
      obtain ⟨hc_w2,hf_w2⟩ := bcell hb2
      have HBx := hid (show Below wr.heap.size wr w2 from Below.trans (Below.box _) (hb2.mono (by simp)))
      have hs2 : wr.heap.size < w2.heap.size := by have := hb2.size; simp at this; omega
      have hs21 : w1.heap.size < w2.heap.size := by omega
      have hs2g : gC < w2.heap.size := by omega
      have R2 := hid (ownsRow_below hr2.out HBx.out)
      have HB2 := hid (HBi.out.trans (HBx.out.mono (by have := HBi.out.size; simp at this; omega)))
      go_wp2_with fail
      have VB := hid (heap_alloc_new w2 (.cells #[.int .i64 lo, .int .i64 hi_, .int .i64 (-1), .int .i64 (-1)] 71))
      refine (insert_row (w.heap.size + 1) gC L2 cap2 w2.heap.size p (es.flatMap encE) [.int .i64 lo, .int .i64 hi_, .int .i64 (-1), .int .i64 (-1)] (w2.alloc (.cells #[.int .i64 lo, .int .i64 hi_, .int .i64 (-1), .int .i64 (-1)] 71)) (ownsRow_below R2.out (Below.box _)) (by have := HB2.out.size; simp at this; simp; omega) LB.out PLE.out VB.out rfl (by intro v hv; simp at hv; rcases hv with rfl | rfl | rfl | rfl <;> rfl) encE_one (by omega)).mono ?_
      rintro _ w3 ⟨g5,cap5,rfl,hr3,hg3,ho3⟩
      have R3 := hid (show w3.ownsRow (w.heap.size + 1) 71 4 (.slice (some ⟨g5,0,none⟩) (L2 + 1) cap5) (L2 + 1) ((eput es p (enew (t.a) (t.b))).flatMap encE) by rw [encE_put (by rw [HL2.out]; exact PLE.out),HK.out]; exact hr3)
      have HL3 := hid (show (eput es p (enew (t.a) (t.b))).length = L2 + 1 by rw [eput_len (by rw [HL2.out]; exact PLE.out),HL2.out])
      have HB3 := hid ((HB2.out.alloc (by have := HB2.out.size; simp at this; omega) (.cells #[.int .i64 lo, .int .i64 hi_, .int .i64 (-1), .int .i64 (-1)] 71)).grown hg3 (by have := HB2.out.size; simp at this; simp; omega) (fun k2 hk2 => by injection hk2 with h; subst h; exact (World.ownsRow.lt R2.out _ rfl).1))
      have hne5 : g5 ≠ w1.heap.size := fun e => ho3.elim (fun h => hne (h ▸ e)) (fun h => by simp at h; omega)
      have hs3 : w2.heap.size + 1 ≤ w3.heap.size := by have := hg3.size; simp at this; exact this
      have hs31 : w1.heap.size < w3.heap.size := by omega
      have hblk := hg3.block w1.heap.size (by simp; omega) (by intro e; injection e with e; exact hne e.symm)
      have d0 : w3.cell? ⟨w1.heap.size,0,none⟩ = some (.int .i64 t.a) := (World.cell?_of_block (a := ⟨w1.heap.size,0,none⟩) hblk).trans (by go_simp)
      have d1 : w3.cell? ⟨w1.heap.size,1,none⟩ = some (.int .i64 t.b) := (World.cell?_of_block (a := ⟨w1.heap.size,1,none⟩) hblk).trans (by go_simp)
      have d2 : w3.cell? ⟨w1.heap.size,2,none⟩ = some (.int .i64 t.c) := (World.cell?_of_block (a := ⟨w1.heap.size,2,none⟩) hblk).trans (by go_simp)
      clear hr3 hg3 ho3 hblk hc_w2 hf_w2 b0 b1 b2
      have PL := hid (show p < (eput es p (enew (t.a) (t.b))).length by rw [HL3.out]; have := PLE.out; omega)
      obtain ⟨row9,gr9,⟨u9,cu9⟩,fr9⟩ := row_set (n := (L2 + 1)) R3.out (i := p * 4 + 3) (by rw [encE_len]; have := PL.out; omega) (.int .i64 k)
      rw [show ((eput es p (enew (t.a) (t.b))).flatMap encE).set (p * 4 + 3) (.int .i64 (k : Int)) = (etriTo es0 k t (0 + 1)).flatMap encE by
       rw [show etriTo es0 k t (0 + 1) = (eput es p (enew (t.a) (t.b))).modify p (emark k false) by
        show eside (etriTo es0 k t 0) k (t.a) (t.b) = _
        rw [EES.out]; unfold eside; simp only [P.out,F.out,AB.out]; rfl]
       exact (encE_mark k false _ p PL.out).symm] at row9
      have R9 := hid row9
      have L9 := hid (show (etriTo es0 k t (0 + 1)).length = (L2 + 1) by
       show (eside (etriTo es0 k t 0) k (t.a) (t.b)).length = _
       rw [EES.out]; unfold eside; simp only [P.out,F.out,List.length_modify]; exact HL3.out)
      have HB9 := hid (show Below (w.heap.size + 1) (w.alloc (.cells #[.slice A0 n0 c0, .slice (some ⟨be,of,none⟩) n1 c1] 26)) (w3.setCell ⟨g5,p * 4 + 3,none⟩ (.int .i64 k)) from HB3.out.setCell (p := ⟨g5,p * 4 + 3,none⟩) (show w.heap.size + 1 ≤ g5 from (World.ownsRow.lt R3.out _ rfl).1) _)
      have hgs : g5 < w3.heap.size := (World.ownsRow.lt R3.out _ rfl).2
      have hpi : (p : Int) < L2 + 1 := by have := PL.out; have := HL3.out; omega
      clear row9 gr9
      go_wp2_with fail
      go_roundg 2
      case measure => omega
      case rel => exact ⟨0 + 1,g5, _,(L2 + 1),rfl,by go_num,rfl,L9.out,R9.out,hid_ok0,hne5,HB9.out,by simp; omega,⟨by go_simp,by go_simp,by go_simp⟩⟩
    ·have F := hid hF
     have PLT := hid (show p < L2 by unfold bsIn at hF; rw [P.out,HL2.out] at hF; simp at hF; exact hF.1)
     clear hF
     by_cases hab : t.a < t.b
     ·have AB := hid (show decide (t.a < t.b) = true by simp [hab])
      go_wp2_with fail
      have C := CC.out
      rw [F.out] at C
      refine C.mono ?_
      clear C CC
      rintro _ w2 ⟨rfl,hb2⟩
      obtain ⟨hc_w2,hf_w2⟩ := bcell hb2
      have HBx := hid (show Below wr.heap.size wr w2 from Below.trans (Below.box _) (hb2.mono (by simp)))
      have hs2 : wr.heap.size < w2.heap.size := by have := hb2.size; simp at this; omega
      have hs21 : w1.heap.size < w2.heap.size := by omega
      have hs2g : gC < w2.heap.size := by omega
      have R2 := hid (ownsRow_below hr2.out HBx.out)
      have HB2 := hid (HBi.out.trans (HBx.out.mono (by have := HBi.out.size; simp at this; omega)))
      have d0 : w2.cell? ⟨w1.heap.size,0,none⟩ = some (.int .i64 t.a) := by go_simp
      have d1 : w2.cell? ⟨w1.heap.size,1,none⟩ = some (.int .i64 t.b) := by go_simp
      have d2 : w2.cell? ⟨w1.heap.size,2,none⟩ = some (.int .i64 t.c) := by go_simp
      clear hc_w2 hf_w2 b0 b1 b2
      have PL := hid (show p < es.length by rw [HL2.out]; exact PLT.out)
      obtain ⟨row9,gr9,⟨u9,cu9⟩,fr9⟩ := row_set (n := L2) R2.out (i := p * 4 + 2) (by rw [encE_len]; have := PL.out; omega) (.int .i64 k)
      rw [show (es.flatMap encE).set (p * 4 + 2) (.int .i64 (k : Int)) = (etriTo es0 k t (0 + 1)).flatMap encE by
       rw [show etriTo es0 k t (0 + 1) = es.modify p (emark k true) by
        show eside (etriTo es0 k t 0) k (t.a) (t.b) = _
        rw [EES.out]; unfold eside; simp only [P.out,F.out,AB.out]; rfl]
       exact (encE_mark k true _ p PL.out).symm] at row9
      have R9 := hid row9
      have L9 := hid (show (etriTo es0 k t (0 + 1)).length = L2 by
       show (eside (etriTo es0 k t 0) k (t.a) (t.b)).length = _
       rw [EES.out]; unfold eside; simp only [P.out,F.out,List.length_modify]; exact HL2.out)
      have HB9 := hid (show Below (w.heap.size + 1) (w.alloc (.cells #[.slice A0 n0 c0, .slice (some ⟨be,of,none⟩) n1 c1] 26)) (w2.setCell ⟨gC,p * 4 + 2,none⟩ (.int .i64 k)) from HB2.out.setCell (p := ⟨gC,p * 4 + 2,none⟩) (show w.heap.size + 1 ≤ gC from (World.ownsRow.lt R2.out _ rfl).1) _)
      have hgs : gC < w2.heap.size := (World.ownsRow.lt R2.out _ rfl).2
      have hpi : (p : Int) < L2 := by have := PL.out; have := HL2.out; omega
      clear row9 gr9
      go_wp2_with fail
      go_roundg 2
      case measure => omega
      case rel => exact ⟨0 + 1,gC, _,L2,rfl,by go_num,rfl,L9.out,R9.out,hid_ok0,hne,HB9.out,by simp; omega,⟨by go_simp,by go_simp,by go_simp⟩⟩
     ·have AB := hid (show decide (t.a < t.b) = false by simp; omega)
      go_wp2_with fail
      have C := CC.out
      rw [F.out] at C
      refine C.mono ?_
      clear C CC
      rintro _ w2 ⟨rfl,hb2⟩
      obtain ⟨hc_w2,hf_w2⟩ := bcell hb2
      have HBx := hid (show Below wr.heap.size wr w2 from Below.trans (Below.box _) (hb2.mono (by simp)))
      have hs2 : wr.heap.size < w2.heap.size := by have := hb2.size; simp at this; omega
      have hs21 : w1.heap.size < w2.heap.size := by omega
      have hs2g : gC < w2.heap.size := by omega
      have R2 := hid (ownsRow_below hr2.out HBx.out)
      have HB2 := hid (HBi.out.trans (HBx.out.mono (by have := HBi.out.size; simp at this; omega)))
      have d0 : w2.cell? ⟨w1.heap.size,0,none⟩ = some (.int .i64 t.a) := by go_simp
      have d1 : w2.cell? ⟨w1.heap.size,1,none⟩ = some (.int .i64 t.b) := by go_simp
      have d2 : w2.cell? ⟨w1.heap.size,2,none⟩ = some (.int .i64 t.c) := by go_simp
      clear hc_w2 hf_w2 b0 b1 b2
      have PL := hid (show p < es.length by rw [HL2.out]; exact PLT.out)
      obtain ⟨row9,gr9,⟨u9,cu9⟩,fr9⟩ := row_set (n := L2) R2.out (i := p * 4 + 3) (by rw [encE_len]; have := PL.out; omega) (.int .i64 k)
      rw [show (es.flatMap encE).set (p * 4 + 3) (.int .i64 (k : Int)) = (etriTo es0 k t (0 + 1)).flatMap encE by
       rw [show etriTo es0 k t (0 + 1) = es.modify p (emark k false) by
        show eside (etriTo es0 k t 0) k (t.a) (t.b) = _
        rw [EES.out]; unfold eside; simp only [P.out,F.out,AB.out]; rfl]
       exact (encE_mark k false _ p PL.out).symm] at row9
      have R9 := hid row9
      have L9 := hid (show (etriTo es0 k t (0 + 1)).length = L2 by
       show (eside (etriTo es0 k t 0) k (t.a) (t.b)).length = _
       rw [EES.out]; unfold eside; simp only [P.out,F.out,List.length_modify]; exact HL2.out)
      have HB9 := hid (show Below (w.heap.size + 1) (w.alloc (.cells #[.slice A0 n0 c0, .slice (some ⟨be,of,none⟩) n1 c1] 26)) (w2.setCell ⟨gC,p * 4 + 3,none⟩ (.int .i64 k)) from HB2.out.setCell (p := ⟨gC,p * 4 + 3,none⟩) (show w.heap.size + 1 ≤ gC from (World.ownsRow.lt R2.out _ rfl).1) _)
      have hgs : gC < w2.heap.size := (World.ownsRow.lt R2.out _ rfl).2
      have hpi : (p : Int) < L2 := by have := PL.out; have := HL2.out; omega
      clear row9 gr9
      go_wp2_with fail
      go_roundg 2
      case measure => omega
      case rel => exact ⟨0 + 1,gC, _,L2,rfl,by go_num,rfl,L9.out,R9.out,hid_ok0,hne,HB9.out,by simp; omega,⟨by go_simp,by go_simp,by go_simp⟩⟩
   ·obtain rfl : gk = 1 + 1 := by omega
    obtain ⟨es,hes⟩ : ∃ es,etriTo es0 k t 1 = es := ⟨_,rfl⟩
    rw [hes] at hL2 hr2 ho2
    have EES := hid hes
    have HL2 := hid hL2.out
    have hid_ok1 := hid (show ∀ e ∈ etriTo es0 k t (1 + 1),edgeOk e from by show ∀ e ∈ eside (etriTo es0 k t 1) k (t.b) (t.c),edgeOk e; rw [hes]; exact eside_ok IK.out ITT.out.2.1 ITT.out.2.2 ho2.out)
    obtain ⟨lo,hlo⟩ : ∃ l,min (t.b) (t.c) = l := ⟨_,rfl⟩
    obtain ⟨hi_,hhi⟩ : ∃ l,max (t.b) (t.c) = l := ⟨_,rfl⟩
    have HK := hid (show enew (t.b) (t.c) = ⟨lo,hi_, -1, -1⟩ by unfold enew; rw [hlo,hhi])
    have EOK := hid (show edgeOk ⟨lo,hi_, -1, -1⟩ by rw [← HK.out]; exact enew_ok ITT.out.2.1 ITT.out.2.2)
    obtain ⟨p,hp⟩ : ∃ p,bsAt es (enew (t.b) (t.c)) = p := ⟨_,rfl⟩
    have P := hid hp
    have PLE := hid (show p ≤ L2 by rw [← hp, ← HL2.out]; exact bsAt_le _ _)
    have hple : (p : Int) ≤ L2 := by have := PLE.out; omega
    obtain ⟨bs2,hsl2, _⟩ := row_edges hr2.out HL2.out ho2.out
    have SL2 := hid hsl2
    have LB := hid (show L2 ≤ 65536 by have := etriTo_len es0 k t 1; rw [hes,HL2.out] at this; have := HE0.out; have := hk48'; omega)
    have hL2i : (L2 : Int) ≤ 65536 := by have := LB.out; omega
    have hgC := (World.ownsRow.lt hr2.out _ rfl)
    have hgC1 : gC < wr.heap.size := hgC.2
    have C := search_edges (some ⟨gC,0,none⟩) L2 cap2 es bs2 (.agg #[.int .i64 lo, .int .i64 hi_, .int .i64 (-1), .int .i64 (-1)]) ⟨lo,hi_, -1, -1⟩ [] (wr.alloc (.cells #[.int .i64 lo, .int .i64 hi_, .int .i64 (-1), .int .i64 (-1)] 71)) (SL2.out.below (Below.box _)) LB.out (TEdge.mkAgg (x := ⟨lo,hi_, -1, -1⟩) EOK.out.1 EOK.out.2.1 EOK.out.2.2.1 EOK.out.2.2.2)
    rw [← HK.out,hp] at C
    have CC := hid C
    clear C hes hp hsl2 hL2 hgC hi2
    cases hF : bsIn es (enew (t.b) (t.c))
    ·have F := hid hF
     clear hF
     by_cases hab : t.b < t.c
     ·have AB := hid (show decide (t.b < t.c) = true by simp [hab])
      go_wp2_with fail
      have C := CC.out
      rw [F.out] at C
      refine C.mono ?_
      clear C CC
      rintro _ w2 ⟨rfl,hb2⟩
      obtain ⟨hc_w2,hf_w2⟩ := bcell hb2
      have HBx := hid (show Below wr.heap.size wr w2 from Below.trans (Below.box _) (hb2.mono (by simp)))
      have hs2 : wr.heap.size < w2.heap.size := by have := hb2.size; simp at this; omega
      have hs21 : w1.heap.size < w2.heap.size := by omega
      have hs2g : gC < w2.heap.size := by omega
      have R2 := hid (ownsRow_below hr2.out HBx.out)
      have HB2 := hid (HBi.out.trans (HBx.out.mono (by have := HBi.out.size; simp at this; omega)))
      go_wp2_with fail
      have VB := hid (heap_alloc_new w2 (.cells #[.int .i64 lo, .int .i64 hi_, .int .i64 (-1), .int .i64 (-1)] 71))
      refine (insert_row (w.heap.size + 1) gC L2 cap2 w2.heap.size p (es.flatMap encE) [.int .i64 lo, .int .i64 hi_, .int .i64 (-1), .int .i64 (-1)] (w2.alloc (.cells #[.int .i64 lo, .int .i64 hi_, .int .i64 (-1), .int .i64 (-1)] 71)) (ownsRow_below R2.out (Below.box _)) (by have := HB2.out.size; simp at this; simp; omega) LB.out PLE.out VB.out rfl (by intro v hv; simp at hv; rcases hv with rfl | rfl | rfl | rfl <;> rfl) encE_one (by omega)).mono ?_
      rintro _ w3 ⟨g5,cap5,rfl,hr3,hg3,ho3⟩
      have R3 := hid (show w3.ownsRow (w.heap.size + 1) 71 4 (.slice (some ⟨g5,0,none⟩) (L2 + 1) cap5) (L2 + 1) ((eput es p (enew (t.b) (t.c))).flatMap encE) by rw [encE_put (by rw [HL2.out]; exact PLE.out),HK.out]; exact hr3)
      have HL3 := hid (show (eput es p (enew (t.b) (t.c))).length = L2 + 1 by rw [eput_len (by rw [HL2.out]; exact PLE.out),HL2.out])
      have HB3 := hid ((HB2.out.alloc (by have := HB2.out.size; simp at this; omega) (.cells #[.int .i64 lo, .int .i64 hi_, .int .i64 (-1), .int .i64 (-1)] 71)).grown hg3 (by have := HB2.out.size; simp at this; simp; omega) (fun k2 hk2 => by injection hk2 with h; subst h; exact (World.ownsRow.lt R2.out _ rfl).1))
      have hne5 : g5 ≠ w1.heap.size := fun e => ho3.elim (fun h => hne (h ▸ e)) (fun h => by simp at h; omega)
      have hs3 : w2.heap.size + 1 ≤ w3.heap.size := by have := hg3.size; simp at this; exact this
      have hs31 : w1.heap.size < w3.heap.size := by omega
      have hblk := hg3.block w1.heap.size (by simp; omega) (by intro e; injection e with e; exact hne e.symm)
      have d0 : w3.cell? ⟨w1.heap.size,0,none⟩ = some (.int .i64 t.a) := (World.cell?_of_block (a := ⟨w1.heap.size,0,none⟩) hblk).trans (by go_simp)
      have d1 : w3.cell? ⟨w1.heap.size,1,none⟩ = some (.int .i64 t.b) := (World.cell?_of_block (a := ⟨w1.heap.size,1,none⟩) hblk).trans (by go_simp)
      have d2 : w3.cell? ⟨w1.heap.size,2,none⟩ = some (.int .i64 t.c) := (World.cell?_of_block (a := ⟨w1.heap.size,2,none⟩) hblk).trans (by go_simp)
      clear hr3 hg3 ho3 hblk hc_w2 hf_w2 b0 b1 b2
      have PL := hid (show p < (eput es p (enew (t.b) (t.c))).length by rw [HL3.out]; have := PLE.out; omega)
      obtain ⟨row9,gr9,⟨u9,cu9⟩,fr9⟩ := row_set (n := (L2 + 1)) R3.out (i := p * 4 + 2) (by rw [encE_len]; have := PL.out; omega) (.int .i64 k)
      rw [show ((eput es p (enew (t.b) (t.c))).flatMap encE).set (p * 4 + 2) (.int .i64 (k : Int)) = (etriTo es0 k t (1 + 1)).flatMap encE by
       rw [show etriTo es0 k t (1 + 1) = (eput es p (enew (t.b) (t.c))).modify p (emark k true) by
        show eside (etriTo es0 k t 1) k (t.b) (t.c) = _
        rw [EES.out]; unfold eside; simp only [P.out,F.out,AB.out]; rfl]
       exact (encE_mark k true _ p PL.out).symm] at row9
      have R9 := hid row9
      have L9 := hid (show (etriTo es0 k t (1 + 1)).length = (L2 + 1) by
       show (eside (etriTo es0 k t 1) k (t.b) (t.c)).length = _
       rw [EES.out]; unfold eside; simp only [P.out,F.out,List.length_modify]; exact HL3.out)
      have HB9 := hid (show Below (w.heap.size + 1) (w.alloc (.cells #[.slice A0 n0 c0, .slice (some ⟨be,of,none⟩) n1 c1] 26)) (w3.setCell ⟨g5,p * 4 + 2,none⟩ (.int .i64 k)) from HB3.out.setCell (p := ⟨g5,p * 4 + 2,none⟩) (show w.heap.size + 1 ≤ g5 from (World.ownsRow.lt R3.out _ rfl).1) _)
      have hgs : g5 < w3.heap.size := (World.ownsRow.lt R3.out _ rfl).2
      have hpi : (p : Int) < L2 + 1 := by have := PL.out; have := HL3.out; omega
      clear row9 gr9
      go_wp2_with fail
      go_roundg 1
      case measure => omega
      case rel => exact ⟨1 + 1,g5, _,(L2 + 1),rfl,by go_num,rfl,L9.out,R9.out,hid_ok1,hne5,HB9.out,by simp; omega,⟨by go_simp,by go_simp,by go_simp⟩⟩
     ·have AB := hid (show decide (t.b < t.c) = false by simp; omega)
      go_wp2_with fail
      have C := CC.out
      rw [F.out] at C
      refine C.mono ?_
      clear C CC
      rintro _ w2 ⟨rfl,hb2⟩
      obtain ⟨hc_w2,hf_w2⟩ := bcell hb2
      have HBx := hid (show Below wr.heap.size wr w2 from Below.trans (Below.box _) (hb2.mono (by simp)))
      have hs2 : wr.heap.size < w2.heap.size := by have := hb2.size; simp at this; omega
      have hs21 : w1.heap.size < w2.heap.size := by omega
      have hs2g : gC < w2.heap.size := by omega
      have R2 := hid (ownsRow_below hr2.out HBx.out)
      have HB2 := hid (HBi.out.trans (HBx.out.mono (by have := HBi.out.size; simp at this; omega)))
      go_wp2_with fail
      have VB := hid (heap_alloc_new w2 (.cells #[.int .i64 lo, .int .i64 hi_, .int .i64 (-1), .int .i64 (-1)] 71))
      refine (insert_row (w.heap.size + 1) gC L2 cap2 w2.heap.size p (es.flatMap encE) [.int .i64 lo, .int .i64 hi_, .int .i64 (-1), .int .i64 (-1)] (w2.alloc (.cells #[.int .i64 lo, .int .i64 hi_, .int .i64 (-1), .int .i64 (-1)] 71)) (ownsRow_below R2.out (Below.box _)) (by have := HB2.out.size; simp at this; simp; omega) LB.out PLE.out VB.out rfl (by intro v hv; simp at hv; rcases hv with rfl | rfl | rfl | rfl <;> rfl) encE_one (by omega)).mono ?_
      rintro _ w3 ⟨g5,cap5,rfl,hr3,hg3,ho3⟩
      have R3 := hid (show w3.ownsRow (w.heap.size + 1) 71 4 (.slice (some ⟨g5,0,none⟩) (L2 + 1) cap5) (L2 + 1) ((eput es p (enew (t.b) (t.c))).flatMap encE) by rw [encE_put (by rw [HL2.out]; exact PLE.out),HK.out]; exact hr3)
      have HL3 := hid (show (eput es p (enew (t.b) (t.c))).length = L2 + 1 by rw [eput_len (by rw [HL2.out]; exact PLE.out),HL2.out])
      have HB3 := hid ((HB2.out.alloc (by have := HB2.out.size; simp at this; omega) (.cells #[.int .i64 lo, .int .i64 hi_, .int .i64 (-1), .int .i64 (-1)] 71)).grown hg3 (by have := HB2.out.size; simp at this; simp; omega) (fun k2 hk2 => by injection hk2 with h; subst h; exact (World.ownsRow.lt R2.out _ rfl).1))
      have hne5 : g5 ≠ w1.heap.size := fun e => ho3.elim (fun h => hne (h ▸ e)) (fun h => by simp at h; omega)
      have hs3 : w2.heap.size + 1 ≤ w3.heap.size := by have := hg3.size; simp at this; exact this
      have hs31 : w1.heap.size < w3.heap.size := by omega
      have hblk := hg3.block w1.heap.size (by simp; omega) (by intro e; injection e with e; exact hne e.symm)
      have d0 : w3.cell? ⟨w1.heap.size,0,none⟩ = some (.int .i64 t.a) := (World.cell?_of_block (a := ⟨w1.heap.size,0,none⟩) hblk).trans (by go_simp)
      have d1 : w3.cell? ⟨w1.heap.size,1,none⟩ = some (.int .i64 t.b) := (World.cell?_of_block (a := ⟨w1.heap.size,1,none⟩) hblk).trans (by go_simp)
      have d2 : w3.cell? ⟨w1.heap.size,2,none⟩ = some (.int .i64 t.c) := (World.cell?_of_block (a := ⟨w1.heap.size,2,none⟩) hblk).trans (by go_simp)
      clear hr3 hg3 ho3 hblk hc_w2 hf_w2 b0 b1 b2
      have PL := hid (show p < (eput es p (enew (t.b) (t.c))).length by rw [HL3.out]; have := PLE.out; omega)
      obtain ⟨row9,gr9,⟨u9,cu9⟩,fr9⟩ := row_set (n := (L2 + 1)) R3.out (i := p * 4 + 3) (by rw [encE_len]; have := PL.out; omega) (.int .i64 k)
      rw [show ((eput es p (enew (t.b) (t.c))).flatMap encE).set (p * 4 + 3) (.int .i64 (k : Int)) = (etriTo es0 k t (1 + 1)).flatMap encE by
       rw [show etriTo es0 k t (1 + 1) = (eput es p (enew (t.b) (t.c))).modify p (emark k false) by
        show eside (etriTo es0 k t 1) k (t.b) (t.c) = _
        rw [EES.out]; unfold eside; simp only [P.out,F.out,AB.out]; rfl]
       exact (encE_mark k false _ p PL.out).symm] at row9
      have R9 := hid row9
      have L9 := hid (show (etriTo es0 k t (1 + 1)).length = (L2 + 1) by
       show (eside (etriTo es0 k t 1) k (t.b) (t.c)).length = _
       rw [EES.out]; unfold eside; simp only [P.out,F.out,List.length_modify]; exact HL3.out)
      have HB9 := hid (show Below (w.heap.size + 1) (w.alloc (.cells #[.slice A0 n0 c0, .slice (some ⟨be,of,none⟩) n1 c1] 26)) (w3.setCell ⟨g5,p * 4 + 3,none⟩ (.int .i64 k)) from HB3.out.setCell (p := ⟨g5,p * 4 + 3,none⟩) (show w.heap.size + 1 ≤ g5 from (World.ownsRow.lt R3.out _ rfl).1) _)
      have hgs : g5 < w3.heap.size := (World.ownsRow.lt R3.out _ rfl).2
      have hpi : (p : Int) < L2 + 1 := by have := PL.out; have := HL3.out; omega
      clear row9 gr9
      go_wp2_with fail
      go_roundg 1
      case measure => omega
      case rel => exact ⟨1 + 1,g5, _,(L2 + 1),rfl,by go_num,rfl,L9.out,R9.out,hid_ok1,hne5,HB9.out,by simp; omega,⟨by go_simp,by go_simp,by go_simp⟩⟩
    ·have F := hid hF
     have PLT := hid (show p < L2 by unfold bsIn at hF; rw [P.out,HL2.out] at hF; simp at hF; exact hF.1)
     clear hF
     by_cases hab : t.b < t.c
     ·have AB := hid (show decide (t.b < t.c) = true by simp [hab])
      go_wp2_with fail
      have C := CC.out
      rw [F.out] at C
      refine C.mono ?_
      clear C CC
      rintro _ w2 ⟨rfl,hb2⟩
      obtain ⟨hc_w2,hf_w2⟩ := bcell hb2
      have HBx := hid (show Below wr.heap.size wr w2 from Below.trans (Below.box _) (hb2.mono (by simp)))
      have hs2 : wr.heap.size < w2.heap.size := by have := hb2.size; simp at this; omega
      have hs21 : w1.heap.size < w2.heap.size := by omega
      have hs2g : gC < w2.heap.size := by omega
      have R2 := hid (ownsRow_below hr2.out HBx.out)
      have HB2 := hid (HBi.out.trans (HBx.out.mono (by have := HBi.out.size; simp at this; omega)))
      have d0 : w2.cell? ⟨w1.heap.size,0,none⟩ = some (.int .i64 t.a) := by go_simp
      have d1 : w2.cell? ⟨w1.heap.size,1,none⟩ = some (.int .i64 t.b) := by go_simp
      have d2 : w2.cell? ⟨w1.heap.size,2,none⟩ = some (.int .i64 t.c) := by go_simp
      clear hc_w2 hf_w2 b0 b1 b2
      have PL := hid (show p < es.length by rw [HL2.out]; exact PLT.out)
      obtain ⟨row9,gr9,⟨u9,cu9⟩,fr9⟩ := row_set (n := L2) R2.out (i := p * 4 + 2) (by rw [encE_len]; have := PL.out; omega) (.int .i64 k)
      rw [show (es.flatMap encE).set (p * 4 + 2) (.int .i64 (k : Int)) = (etriTo es0 k t (1 + 1)).flatMap encE by
       rw [show etriTo es0 k t (1 + 1) = es.modify p (emark k true) by
        show eside (etriTo es0 k t 1) k (t.b) (t.c) = _
        rw [EES.out]; unfold eside; simp only [P.out,F.out,AB.out]; rfl]
       exact (encE_mark k true _ p PL.out).symm] at row9
      have R9 := hid row9
      have L9 := hid (show (etriTo es0 k t (1 + 1)).length = L2 by
       show (eside (etriTo es0 k t 1) k (t.b) (t.c)).length = _
       rw [EES.out]; unfold eside; simp only [P.out,F.out,List.length_modify]; exact HL2.out)
      have HB9 := hid (show Below (w.heap.size + 1) (w.alloc (.cells #[.slice A0 n0 c0, .slice (some ⟨be,of,none⟩) n1 c1] 26)) (w2.setCell ⟨gC,p * 4 + 2,none⟩ (.int .i64 k)) from HB2.out.setCell (p := ⟨gC,p * 4 + 2,none⟩) (show w.heap.size + 1 ≤ gC from (World.ownsRow.lt R2.out _ rfl).1) _)
      have hgs : gC < w2.heap.size := (World.ownsRow.lt R2.out _ rfl).2
      have hpi : (p : Int) < L2 := by have := PL.out; have := HL2.out; omega
      clear row9 gr9
      go_wp2_with fail
      go_roundg 1
      case measure => omega
      case rel => exact ⟨1 + 1,gC, _,L2,rfl,by go_num,rfl,L9.out,R9.out,hid_ok1,hne,HB9.out,by simp; omega,⟨by go_simp,by go_simp,by go_simp⟩⟩
     ·have AB := hid (show decide (t.b < t.c) = false by simp; omega)
      go_wp2_with fail
      have C := CC.out
      rw [F.out] at C
      refine C.mono ?_
      clear C CC
      rintro _ w2 ⟨rfl,hb2⟩
      obtain ⟨hc_w2,hf_w2⟩ := bcell hb2
      have HBx := hid (show Below wr.heap.size wr w2 from Below.trans (Below.box _) (hb2.mono (by simp)))
      have hs2 : wr.heap.size < w2.heap.size := by have := hb2.size; simp at this; omega
      have hs21 : w1.heap.size < w2.heap.size := by omega
      have hs2g : gC < w2.heap.size := by omega
      have R2 := hid (ownsRow_below hr2.out HBx.out)
      have HB2 := hid (HBi.out.trans (HBx.out.mono (by have := HBi.out.size; simp at this; omega)))
      have d0 : w2.cell? ⟨w1.heap.size,0,none⟩ = some (.int .i64 t.a) := by go_simp
      have d1 : w2.cell? ⟨w1.heap.size,1,none⟩ = some (.int .i64 t.b) := by go_simp
      have d2 : w2.cell? ⟨w1.heap.size,2,none⟩ = some (.int .i64 t.c) := by go_simp
      clear hc_w2 hf_w2 b0 b1 b2
      have PL := hid (show p < es.length by rw [HL2.out]; exact PLT.out)
      obtain ⟨row9,gr9,⟨u9,cu9⟩,fr9⟩ := row_set (n := L2) R2.out (i := p * 4 + 3) (by rw [encE_len]; have := PL.out; omega) (.int .i64 k)
      rw [show (es.flatMap encE).set (p * 4 + 3) (.int .i64 (k : Int)) = (etriTo es0 k t (1 + 1)).flatMap encE by
       rw [show etriTo es0 k t (1 + 1) = es.modify p (emark k false) by
        show eside (etriTo es0 k t 1) k (t.b) (t.c) = _
        rw [EES.out]; unfold eside; simp only [P.out,F.out,AB.out]; rfl]
       exact (encE_mark k false _ p PL.out).symm] at row9
      have R9 := hid row9
      have L9 := hid (show (etriTo es0 k t (1 + 1)).length = L2 by
       show (eside (etriTo es0 k t 1) k (t.b) (t.c)).length = _
       rw [EES.out]; unfold eside; simp only [P.out,F.out,List.length_modify]; exact HL2.out)
      have HB9 := hid (show Below (w.heap.size + 1) (w.alloc (.cells #[.slice A0 n0 c0, .slice (some ⟨be,of,none⟩) n1 c1] 26)) (w2.setCell ⟨gC,p * 4 + 3,none⟩ (.int .i64 k)) from HB2.out.setCell (p := ⟨gC,p * 4 + 3,none⟩) (show w.heap.size + 1 ≤ gC from (World.ownsRow.lt R2.out _ rfl).1) _)
      have hgs : gC < w2.heap.size := (World.ownsRow.lt R2.out _ rfl).2
      have hpi : (p : Int) < L2 := by have := PL.out; have := HL2.out; omega
      clear row9 gr9
      go_wp2_with fail
      go_roundg 1
      case measure => omega
      case rel => exact ⟨1 + 1,gC, _,L2,rfl,by go_num,rfl,L9.out,R9.out,hid_ok1,hne,HB9.out,by simp; omega,⟨by go_simp,by go_simp,by go_simp⟩⟩
   ·obtain rfl : gk = 0 + 1 := by omega
    obtain ⟨es,hes⟩ : ∃ es,etriTo es0 k t 2 = es := ⟨_,rfl⟩
    rw [hes] at hL2 hr2 ho2
    have EES := hid hes
    have HL2 := hid hL2.out
    have hid_ok2 := hid (show ∀ e ∈ etriTo es0 k t (2 + 1),edgeOk e from by show ∀ e ∈ eside (etriTo es0 k t 2) k (t.c) (t.a),edgeOk e; rw [hes]; exact eside_ok IK.out ITT.out.2.2 ITT.out.1 ho2.out)
    obtain ⟨lo,hlo⟩ : ∃ l,min (t.c) (t.a) = l := ⟨_,rfl⟩
    obtain ⟨hi_,hhi⟩ : ∃ l,max (t.c) (t.a) = l := ⟨_,rfl⟩
    have HK := hid (show enew (t.c) (t.a) = ⟨lo,hi_, -1, -1⟩ by unfold enew; rw [hlo,hhi])
    have EOK := hid (show edgeOk ⟨lo,hi_, -1, -1⟩ by rw [← HK.out]; exact enew_ok ITT.out.2.2 ITT.out.1)
    obtain ⟨p,hp⟩ : ∃ p,bsAt es (enew (t.c) (t.a)) = p := ⟨_,rfl⟩
    have P := hid hp
    have PLE := hid (show p ≤ L2 by rw [← hp, ← HL2.out]; exact bsAt_le _ _)
    have hple : (p : Int) ≤ L2 := by have := PLE.out; omega
    obtain ⟨bs2,hsl2, _⟩ := row_edges hr2.out HL2.out ho2.out
    have SL2 := hid hsl2
    have LB := hid (show L2 ≤ 65536 by have := etriTo_len es0 k t 2; rw [hes,HL2.out] at this; have := HE0.out; have := hk48'; omega)
    have hL2i : (L2 : Int) ≤ 65536 := by have := LB.out; omega
    have hgC := (World.ownsRow.lt hr2.out _ rfl)
    have hgC1 : gC < wr.heap.size := hgC.2
    have C := search_edges (some ⟨gC,0,none⟩) L2 cap2 es bs2 (.agg #[.int .i64 lo, .int .i64 hi_, .int .i64 (-1), .int .i64 (-1)]) ⟨lo,hi_, -1, -1⟩ [] (wr.alloc (.cells #[.int .i64 lo, .int .i64 hi_, .int .i64 (-1), .int .i64 (-1)] 71)) (SL2.out.below (Below.box _)) LB.out (TEdge.mkAgg (x := ⟨lo,hi_, -1, -1⟩) EOK.out.1 EOK.out.2.1 EOK.out.2.2.1 EOK.out.2.2.2)
    rw [← HK.out,hp] at C
    have CC := hid C
    clear C hes hp hsl2 hL2 hgC hi2
    cases hF : bsIn es (enew (t.c) (t.a))
    ·have F := hid hF
     clear hF
     by_cases hab : t.c < t.a
     ·have AB := hid (show decide (t.c < t.a) = true by simp [hab])
      go_wp2_with fail
      have C := CC.out
      rw [F.out] at C
      refine C.mono ?_
      clear C CC
      rintro _ w2 ⟨rfl,hb2⟩
      obtain ⟨hc_w2,hf_w2⟩ := bcell hb2
      have HBx := hid (show Below wr.heap.size wr w2 from Below.trans (Below.box _) (hb2.mono (by simp)))
      have hs2 : wr.heap.size < w2.heap.size := by have := hb2.size; simp at this; omega
      have hs21 : w1.heap.size < w2.heap.size := by omega
      have hs2g : gC < w2.heap.size := by omega
      have R2 := hid (ownsRow_below hr2.out HBx.out)
      have HB2 := hid (HBi.out.trans (HBx.out.mono (by have := HBi.out.size; simp at this; omega)))
      go_wp2_with fail
      have VB := hid (heap_alloc_new w2 (.cells #[.int .i64 lo, .int .i64 hi_, .int .i64 (-1), .int .i64 (-1)] 71))
      refine (insert_row (w.heap.size + 1) gC L2 cap2 w2.heap.size p (es.flatMap encE) [.int .i64 lo, .int .i64 hi_, .int .i64 (-1), .int .i64 (-1)] (w2.alloc (.cells #[.int .i64 lo, .int .i64 hi_, .int .i64 (-1), .int .i64 (-1)] 71)) (ownsRow_below R2.out (Below.box _)) (by have := HB2.out.size; simp at this; simp; omega) LB.out PLE.out VB.out rfl (by intro v hv; simp at hv; rcases hv with rfl | rfl | rfl | rfl <;> rfl) encE_one (by omega)).mono ?_
      rintro _ w3 ⟨g5,cap5,rfl,hr3,hg3,ho3⟩
      have R3 := hid (show w3.ownsRow (w.heap.size + 1) 71 4 (.slice (some ⟨g5,0,none⟩) (L2 + 1) cap5) (L2 + 1) ((eput es p (enew (t.c) (t.a))).flatMap encE) by rw [encE_put (by rw [HL2.out]; exact PLE.out),HK.out]; exact hr3)
      have HL3 := hid (show (eput es p (enew (t.c) (t.a))).length = L2 + 1 by rw [eput_len (by rw [HL2.out]; exact PLE.out),HL2.out])
      have HB3 := hid ((HB2.out.alloc (by have := HB2.out.size; simp at this; omega) (.cells #[.int .i64 lo, .int .i64 hi_, .int .i64 (-1), .int .i64 (-1)] 71)).grown hg3 (by have := HB2.out.size; simp at this; simp; omega) (fun k2 hk2 => by injection hk2 with h; subst h; exact (World.ownsRow.lt R2.out _ rfl).1))
      have hne5 : g5 ≠ w1.heap.size := fun e => ho3.elim (fun h => hne (h ▸ e)) (fun h => by simp at h; omega)
      have hs3 : w2.heap.size + 1 ≤ w3.heap.size := by have := hg3.size; simp at this; exact this
      have hs31 : w1.heap.size < w3.heap.size := by omega
      have hblk := hg3.block w1.heap.size (by simp; omega) (by intro e; injection e with e; exact hne e.symm)
      have d0 : w3.cell? ⟨w1.heap.size,0,none⟩ = some (.int .i64 t.a) := (World.cell?_of_block (a := ⟨w1.heap.size,0,none⟩) hblk).trans (by go_simp)
      have d1 : w3.cell? ⟨w1.heap.size,1,none⟩ = some (.int .i64 t.b) := (World.cell?_of_block (a := ⟨w1.heap.size,1,none⟩) hblk).trans (by go_simp)
      have d2 : w3.cell? ⟨w1.heap.size,2,none⟩ = some (.int .i64 t.c) := (World.cell?_of_block (a := ⟨w1.heap.size,2,none⟩) hblk).trans (by go_simp)
      clear hr3 hg3 ho3 hblk hc_w2 hf_w2 b0 b1 b2
      have PL := hid (show p < (eput es p (enew (t.c) (t.a))).length by rw [HL3.out]; have := PLE.out; omega)
      obtain ⟨row9,gr9,⟨u9,cu9⟩,fr9⟩ := row_set (n := (L2 + 1)) R3.out (i := p * 4 + 2) (by rw [encE_len]; have := PL.out; omega) (.int .i64 k)
      rw [show ((eput es p (enew (t.c) (t.a))).flatMap encE).set (p * 4 + 2) (.int .i64 (k : Int)) = (etriTo es0 k t (2 + 1)).flatMap encE by
       rw [show etriTo es0 k t (2 + 1) = (eput es p (enew (t.c) (t.a))).modify p (emark k true) by
        show eside (etriTo es0 k t 2) k (t.c) (t.a) = _
        rw [EES.out]; unfold eside; simp only [P.out,F.out,AB.out]; rfl]
       exact (encE_mark k true _ p PL.out).symm] at row9
      have R9 := hid row9
      have L9 := hid (show (etriTo es0 k t (2 + 1)).length = (L2 + 1) by
       show (eside (etriTo es0 k t 2) k (t.c) (t.a)).length = _
       rw [EES.out]; unfold eside; simp only [P.out,F.out,List.length_modify]; exact HL3.out)
      have HB9 := hid (show Below (w.heap.size + 1) (w.alloc (.cells #[.slice A0 n0 c0, .slice (some ⟨be,of,none⟩) n1 c1] 26)) (w3.setCell ⟨g5,p * 4 + 2,none⟩ (.int .i64 k)) from HB3.out.setCell (p := ⟨g5,p * 4 + 2,none⟩) (show w.heap.size + 1 ≤ g5 from (World.ownsRow.lt R3.out _ rfl).1) _)
      have hgs : g5 < w3.heap.size := (World.ownsRow.lt R3.out _ rfl).2
      have hpi : (p : Int) < L2 + 1 := by have := PL.out; have := HL3.out; omega
      clear row9 gr9
      go_wp2_with fail
      go_roundg 0
      case measure => omega
      case rel => exact ⟨2 + 1,g5, _,(L2 + 1),rfl,by go_num,rfl,L9.out,R9.out,hid_ok2,hne5,HB9.out,by simp; omega,⟨by go_simp,by go_simp,by go_simp⟩⟩
     ·have AB := hid (show decide (t.c < t.a) = false by simp; omega)
      go_wp2_with fail
      have C := CC.out
      rw [F.out] at C
      refine C.mono ?_
      clear C CC
      rintro _ w2 ⟨rfl,hb2⟩
      obtain ⟨hc_w2,hf_w2⟩ := bcell hb2
      have HBx := hid (show Below wr.heap.size wr w2 from Below.trans (Below.box _) (hb2.mono (by simp)))
      have hs2 : wr.heap.size < w2.heap.size := by have := hb2.size; simp at this; omega
      have hs21 : w1.heap.size < w2.heap.size := by omega
      have hs2g : gC < w2.heap.size := by omega
      have R2 := hid (ownsRow_below hr2.out HBx.out)
      have HB2 := hid (HBi.out.trans (HBx.out.mono (by have := HBi.out.size; simp at this; omega)))
      go_wp2_with fail
      have VB := hid (heap_alloc_new w2 (.cells #[.int .i64 lo, .int .i64 hi_, .int .i64 (-1), .int .i64 (-1)] 71))
      refine (insert_row (w.heap.size + 1) gC L2 cap2 w2.heap.size p (es.flatMap encE) [.int .i64 lo, .int .i64 hi_, .int .i64 (-1), .int .i64 (-1)] (w2.alloc (.cells #[.int .i64 lo, .int .i64 hi_, .int .i64 (-1), .int .i64 (-1)] 71)) (ownsRow_below R2.out (Below.box _)) (by have := HB2.out.size; simp at this; simp; omega) LB.out PLE.out VB.out rfl (by intro v hv; simp at hv; rcases hv with rfl | rfl | rfl | rfl <;> rfl) encE_one (by omega)).mono ?_
      rintro _ w3 ⟨g5,cap5,rfl,hr3,hg3,ho3⟩
      have R3 := hid (show w3.ownsRow (w.heap.size + 1) 71 4 (.slice (some ⟨g5,0,none⟩) (L2 + 1) cap5) (L2 + 1) ((eput es p (enew (t.c) (t.a))).flatMap encE) by rw [encE_put (by rw [HL2.out]; exact PLE.out),HK.out]; exact hr3)
      have HL3 := hid (show (eput es p (enew (t.c) (t.a))).length = L2 + 1 by rw [eput_len (by rw [HL2.out]; exact PLE.out),HL2.out])
      have HB3 := hid ((HB2.out.alloc (by have := HB2.out.size; simp at this; omega) (.cells #[.int .i64 lo, .int .i64 hi_, .int .i64 (-1), .int .i64 (-1)] 71)).grown hg3 (by have := HB2.out.size; simp at this; simp; omega) (fun k2 hk2 => by injection hk2 with h; subst h; exact (World.ownsRow.lt R2.out _ rfl).1))
      have hne5 : g5 ≠ w1.heap.size := fun e => ho3.elim (fun h => hne (h ▸ e)) (fun h => by simp at h; omega)
      have hs3 : w2.heap.size + 1 ≤ w3.heap.size := by have := hg3.size; simp at this; exact this
      have hs31 : w1.heap.size < w3.heap.size := by omega
      have hblk := hg3.block w1.heap.size (by simp; omega) (by intro e; injection e with e; exact hne e.symm)
      have d0 : w3.cell? ⟨w1.heap.size,0,none⟩ = some (.int .i64 t.a) := (World.cell?_of_block (a := ⟨w1.heap.size,0,none⟩) hblk).trans (by go_simp)
      have d1 : w3.cell? ⟨w1.heap.size,1,none⟩ = some (.int .i64 t.b) := (World.cell?_of_block (a := ⟨w1.heap.size,1,none⟩) hblk).trans (by go_simp)
      have d2 : w3.cell? ⟨w1.heap.size,2,none⟩ = some (.int .i64 t.c) := (World.cell?_of_block (a := ⟨w1.heap.size,2,none⟩) hblk).trans (by go_simp)
      clear hr3 hg3 ho3 hblk hc_w2 hf_w2 b0 b1 b2
      have PL := hid (show p < (eput es p (enew (t.c) (t.a))).length by rw [HL3.out]; have := PLE.out; omega)
      obtain ⟨row9,gr9,⟨u9,cu9⟩,fr9⟩ := row_set (n := (L2 + 1)) R3.out (i := p * 4 + 3) (by rw [encE_len]; have := PL.out; omega) (.int .i64 k)
      rw [show ((eput es p (enew (t.c) (t.a))).flatMap encE).set (p * 4 + 3) (.int .i64 (k : Int)) = (etriTo es0 k t (2 + 1)).flatMap encE by
       rw [show etriTo es0 k t (2 + 1) = (eput es p (enew (t.c) (t.a))).modify p (emark k false) by
        show eside (etriTo es0 k t 2) k (t.c) (t.a) = _
        rw [EES.out]; unfold eside; simp only [P.out,F.out,AB.out]; rfl]
       exact (encE_mark k false _ p PL.out).symm] at row9
      have R9 := hid row9
      have L9 := hid (show (etriTo es0 k t (2 + 1)).length = (L2 + 1) by
       show (eside (etriTo es0 k t 2) k (t.c) (t.a)).length = _
       rw [EES.out]; unfold eside; simp only [P.out,F.out,List.length_modify]; exact HL3.out)
      have HB9 := hid (show Below (w.heap.size + 1) (w.alloc (.cells #[.slice A0 n0 c0, .slice (some ⟨be,of,none⟩) n1 c1] 26)) (w3.setCell ⟨g5,p * 4 + 3,none⟩ (.int .i64 k)) from HB3.out.setCell (p := ⟨g5,p * 4 + 3,none⟩) (show w.heap.size + 1 ≤ g5 from (World.ownsRow.lt R3.out _ rfl).1) _)
      have hgs : g5 < w3.heap.size := (World.ownsRow.lt R3.out _ rfl).2
      have hpi : (p : Int) < L2 + 1 := by have := PL.out; have := HL3.out; omega
      clear row9 gr9
      go_wp2_with fail
      go_roundg 0
      case measure => omega
      case rel => exact ⟨2 + 1,g5, _,(L2 + 1),rfl,by go_num,rfl,L9.out,R9.out,hid_ok2,hne5,HB9.out,by simp; omega,⟨by go_simp,by go_simp,by go_simp⟩⟩
    ·have F := hid hF
     have PLT := hid (show p < L2 by unfold bsIn at hF; rw [P.out,HL2.out] at hF; simp at hF; exact hF.1)
     clear hF
     by_cases hab : t.c < t.a
     ·have AB := hid (show decide (t.c < t.a) = true by simp [hab])
      go_wp2_with fail
      have C := CC.out
      rw [F.out] at C
      refine C.mono ?_
      clear C CC
      rintro _ w2 ⟨rfl,hb2⟩
      obtain ⟨hc_w2,hf_w2⟩ := bcell hb2
      have HBx := hid (show Below wr.heap.size wr w2 from Below.trans (Below.box _) (hb2.mono (by simp)))
      have hs2 : wr.heap.size < w2.heap.size := by have := hb2.size; simp at this; omega
      have hs21 : w1.heap.size < w2.heap.size := by omega
      have hs2g : gC < w2.heap.size := by omega
      have R2 := hid (ownsRow_below hr2.out HBx.out)
      have HB2 := hid (HBi.out.trans (HBx.out.mono (by have := HBi.out.size; simp at this; omega)))
      have d0 : w2.cell? ⟨w1.heap.size,0,none⟩ = some (.int .i64 t.a) := by go_simp
      have d1 : w2.cell? ⟨w1.heap.size,1,none⟩ = some (.int .i64 t.b) := by go_simp
      have d2 : w2.cell? ⟨w1.heap.size,2,none⟩ = some (.int .i64 t.c) := by go_simp
      clear hc_w2 hf_w2 b0 b1 b2
      have PL := hid (show p < es.length by rw [HL2.out]; exact PLT.out)
      obtain ⟨row9,gr9,⟨u9,cu9⟩,fr9⟩ := row_set (n := L2) R2.out (i := p * 4 + 2) (by rw [encE_len]; have := PL.out; omega) (.int .i64 k)
      rw [show (es.flatMap encE).set (p * 4 + 2) (.int .i64 (k : Int)) = (etriTo es0 k t (2 + 1)).flatMap encE by
       rw [show etriTo es0 k t (2 + 1) = es.modify p (emark k true) by
        show eside (etriTo es0 k t 2) k (t.c) (t.a) = _
        rw [EES.out]; unfold eside; simp only [P.out,F.out,AB.out]; rfl]
       exact (encE_mark k true _ p PL.out).symm] at row9
      have R9 := hid row9
      have L9 := hid (show (etriTo es0 k t (2 + 1)).length = L2 by
       show (eside (etriTo es0 k t 2) k (t.c) (t.a)).length = _
       rw [EES.out]; unfold eside; simp only [P.out,F.out,List.length_modify]; exact HL2.out)
      have HB9 := hid (show Below (w.heap.size + 1) (w.alloc (.cells #[.slice A0 n0 c0, .slice (some ⟨be,of,none⟩) n1 c1] 26)) (w2.setCell ⟨gC,p * 4 + 2,none⟩ (.int .i64 k)) from HB2.out.setCell (p := ⟨gC,p * 4 + 2,none⟩) (show w.heap.size + 1 ≤ gC from (World.ownsRow.lt R2.out _ rfl).1) _)
      have hgs : gC < w2.heap.size := (World.ownsRow.lt R2.out _ rfl).2
      have hpi : (p : Int) < L2 := by have := PL.out; have := HL2.out; omega
      clear row9 gr9
      go_wp2_with fail
      go_roundg 0
      case measure => omega
      case rel => exact ⟨2 + 1,gC, _,L2,rfl,by go_num,rfl,L9.out,R9.out,hid_ok2,hne,HB9.out,by simp; omega,⟨by go_simp,by go_simp,by go_simp⟩⟩
     ·have AB := hid (show decide (t.c < t.a) = false by simp; omega)
      go_wp2_with fail
      have C := CC.out
      rw [F.out] at C
      refine C.mono ?_
      clear C CC
      rintro _ w2 ⟨rfl,hb2⟩
      obtain ⟨hc_w2,hf_w2⟩ := bcell hb2
      have HBx := hid (show Below wr.heap.size wr w2 from Below.trans (Below.box _) (hb2.mono (by simp)))
      have hs2 : wr.heap.size < w2.heap.size := by have := hb2.size; simp at this; omega
      have hs21 : w1.heap.size < w2.heap.size := by omega
      have hs2g : gC < w2.heap.size := by omega
      have R2 := hid (ownsRow_below hr2.out HBx.out)
      have HB2 := hid (HBi.out.trans (HBx.out.mono (by have := HBi.out.size; simp at this; omega)))
      have d0 : w2.cell? ⟨w1.heap.size,0,none⟩ = some (.int .i64 t.a) := by go_simp
      have d1 : w2.cell? ⟨w1.heap.size,1,none⟩ = some (.int .i64 t.b) := by go_simp
      have d2 : w2.cell? ⟨w1.heap.size,2,none⟩ = some (.int .i64 t.c) := by go_simp
      clear hc_w2 hf_w2 b0 b1 b2
      have PL := hid (show p < es.length by rw [HL2.out]; exact PLT.out)
      obtain ⟨row9,gr9,⟨u9,cu9⟩,fr9⟩ := row_set (n := L2) R2.out (i := p * 4 + 3) (by rw [encE_len]; have := PL.out; omega) (.int .i64 k)
      rw [show (es.flatMap encE).set (p * 4 + 3) (.int .i64 (k : Int)) = (etriTo es0 k t (2 + 1)).flatMap encE by
       rw [show etriTo es0 k t (2 + 1) = es.modify p (emark k false) by
        show eside (etriTo es0 k t 2) k (t.c) (t.a) = _
        rw [EES.out]; unfold eside; simp only [P.out,F.out,AB.out]; rfl]
       exact (encE_mark k false _ p PL.out).symm] at row9
      have R9 := hid row9
      have L9 := hid (show (etriTo es0 k t (2 + 1)).length = L2 by
       show (eside (etriTo es0 k t 2) k (t.c) (t.a)).length = _
       rw [EES.out]; unfold eside; simp only [P.out,F.out,List.length_modify]; exact HL2.out)
      have HB9 := hid (show Below (w.heap.size + 1) (w.alloc (.cells #[.slice A0 n0 c0, .slice (some ⟨be,of,none⟩) n1 c1] 26)) (w2.setCell ⟨gC,p * 4 + 3,none⟩ (.int .i64 k)) from HB2.out.setCell (p := ⟨gC,p * 4 + 3,none⟩) (show w.heap.size + 1 ≤ gC from (World.ownsRow.lt R2.out _ rfl).1) _)
      have hgs : gC < w2.heap.size := (World.ownsRow.lt R2.out _ rfl).2
      have hpi : (p : Int) < L2 := by have := PL.out; have := HL2.out; omega
      clear row9 gr9
      go_wp2_with fail
      go_roundg 0
      case measure => omega
      case rel => exact ⟨2 + 1,gC, _,L2,rfl,by go_num,rfl,L9.out,R9.out,hid_ok2,hne,HB9.out,by simp; omega,⟨by go_simp,by go_simp,by go_simp⟩⟩
   ·clear hi2
    go_wp2_with fail
    go_roundg g
    case measure => omega
    case rel => exact ⟨k + 1,gC,cap2,L2,hk'.out,by go_num,rfl,(show (edgesTo ts (k + 1)).length = L2 by rw [NX.out]; exact hL2.out),(show wr.ownsRow _ _ _ _ _ ((edgesTo ts (k + 1)).flatMap encE) by rw [NX.out]; exact hr2.out),(show ∀ e ∈ edgesTo ts (k + 1),edgeOk e by rw [NX.out]; exact ho2.out),HBi.out⟩
  ·obtain rfl : k = n1 := by omega
   have hki : ¬ ((k : Int) < k) := by omega
   have E := hid (show edgesTo ts k = edgesL ts by unfold edgesL; rw [HL.out])
   clear hk hkn hb
   go_wp2
   go_ret
   rw [← E.out]
   obtain ⟨bs9,hs9,hb9⟩ := row_edges hrow.out hL.out hok.out
   exact ⟨_,L,cap,bs9,rfl,hs9,edges_own hrow.out hs9,HBW.out⟩
end Go.Proofs.YtpfipnankjeokaaGreat.X
