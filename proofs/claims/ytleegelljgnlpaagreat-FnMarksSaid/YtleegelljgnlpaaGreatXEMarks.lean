/- FnMarks: for every input, marking reaches its part of the sum, and no marked element can be omitted: the law returns true, and its argument reads as before. No condition. -/
import Derived.Test.YtleegelljgnlpaaGreatP2
import Derived.Test.YtleegelljgnlpaaGreatPL
import Derived.Test.YtleegelljgnlpaaGreatXMake
import Derived.Test.YtleegelljgnlpaaGreatXFrac4
import Derived.Test.YtleegelljgnlpaaGreatXMkPl
import Derived.Test.YtleegelljgnlpaaGreatXGreat
import Derived.Test.YtleegelljgnlpaaGreatXPt0
import Derived.Test.YtleegelljgnlpaaGreatXPushS
import Derived.WalkLawsBesides
import Derived.ProofKit
import Derived.OpenShut
import Derived.Deep.RegionHeld3
import Derived.Deep.AppendLies
namespace Go.Proofs.YtleegelljgnlpaaGreat.fnMarks
open Go.XS Go.ChangeShapes Go.WideShapes Go.ChangeAt Go.RowKit Go.XB Go.XN Go.Proofs.YtleegelljgnlpaaGreat.X
attribute [local go_sem] fillBy opAt deps depOf Region.wanted yielded
attribute [local simp] deps depOf MP.eq MP.agg MP.sl Facts
set_option linter.constructorNameAsVariable false

theorem oTByte : Opens Tryz.prog 5 TByte := fun enc w fuel cs y h => by
  obtain ⟨n, rfl, _, hn⟩ := DataW.trod_int Tryz.underlying5 h
  exact ⟨⟨n⟩, [], rfl, rfl, by
    simp [Lit.wf, IntKind.min, IntKind.max, IntKind.signed, IntKind.bits] at hn
    show 0 ≤ n ∧ n < 256
    omega⟩
theorem oLTByte : Opens Tryz.prog 22 (List TByte) := Opens.slice Tryz.underlying22 (by kernel_rfl) oTByte

set_option maxHeartbeats 4000000 in
set_option maxRecDepth 10000 in
theorem walk (A0 : Option Addr) (n0 c0 : Nat) (x0 : List TByte) (b0 : List Nat) (w : World) (h0 : Sl w A0 n0 c0 x0 b0) :
    Calls Tryz.prog 3 #[.slice A0 n0 c0] w (Gives w (.bool true)) := by
  have H0 := hid h0
  have hm0 : n0 ≤ maxLen := Nat.le_trans h0.2.1 h0.2.2.1
  unfold maxLen at hm0
  clear h0
  by_cases hbig : (1048576 : Int) < n0
  · go_enter Tryz.func3, Tryz.ntmps3
    go_wp2
    go_ret
    exact ⟨rfl, Below.refl _ _⟩
  have hn : n0 ≤ 1048576 := by omega
  obtain ⟨i0, hi, hz0, hz1, hz2⟩ := info_parts infoI
  go_enter Tryz.func3, Tryz.ntmps3
  go_wp2_with fail
  refine (spec_MakeParts _ _ _ x0 _ w H0.out hn).mono ?_
  rintro e w1 ⟨us, hus, L, nL, cL, sL, rfl, ha, ho, hb1⟩
  have HUS := hid hus
  have HL1 := hid ha
  have BW1 := hid hb1
  have hnl := ha.1
  rw [List.length_map] at hnl
  have LN := hid hnl
  clear ha ho hb1 hus
  go_wp2_with fail
  refine (spec_MakePart _ _ _ x0 _ w1 (H0.out.below BW1.out) hn).mono ?_
  rintro e w2 ⟨b, hb, vp, sp, rfl, ha, ho, hb2⟩
  obtain ⟨P1, nP1, cP1, sP1, P2, nP2, cP2, sP2, rfl, hq, _, _⟩ := TRat.agg ha
  have HBB := hid hb
  have HL2 := hid (HL1.out.below hb2)
  have HP2 := hid ha
  have BW2 := hid (Below.next BW1.out hb2)
  clear ha ho hb hb2 hq HL1
  obtain ⟨M, HM⟩ : ∃ M, Hid (M = markFrac (us.map hf) (mkR b 5)) := ⟨_, rfl⟩
  have MF := hid (show MarksFacts us b M by rw [HM.out]; exact marks_facts HUS.out.1 HBB.out.1 HBB.out.2)
  have YES := hid (show isMarkedB (us.map hf) (mkR b 5) M = true by rw [HM.out]; exact marked_yes HUS.out.1 HBB.out.1 HBB.out.2)
  have NOS := hid (show ∀ i, i < M.length → isMarkedB (us.map hf) (mkR b 5) (M.take i ++ M.drop (i + 1)) = false by rw [HM.out]; exact fun i hi => marked_no HUS.out.1 HBB.out.1 HBB.out.2 hi)
  have GRT := hid (great_yes HUS.out.1 HUS.out.2)
  have OLN := hid (show (orderOf (us.map hf)).length = nL by rw [order_length HUS.out.1.ratV, List.length_map]; exact LN.out)
  have RSG := hid (rsign_hf HUS.out.1)
  have hn6 := hid (show nL ≤ 1048576 by rw [← LN.out]; have := HUS.out.1.len; omega)
  go_wp2_with fail
  have C := impl_MarkFraction L nL cL (us.map hf) _ _ (mkR b 5) _ (w2.alloc (.cells #[.bool (mkR b 5).num.neg, .slice P1 nP1 cP1, .slice P2 nP2 cP2] 29)) (HL2.out.below (Below.box _)) (HP2.out.below (Below.box _)) hn6.out
  rw [← HM.out] at C
  refine C.mono ?_
  clear C
  rintro e w3 ⟨M1, nM, cM, sM, rfl, haM, hoM, hb3⟩
  have hs3 := hb3.size
  simp at hs3
  have HM3 := hid haM
  have hnM := haM.1
  have MN := hid hnM
  have HL3 := hid ((HL2.out.below (Below.box (.cells #[.bool (mkR b 5).num.neg, .slice P1 nP1 cP1, .slice P2 nP2 cP2] 29))).below hb3)
  have HP3 := hid ((HP2.out.below (Below.box (.cells #[.bool (mkR b 5).num.neg, .slice P1 nP1 cP1, .slice P2 nP2 cP2] 29))).below hb3)
  have BW3 := hid (Below.next (Below.box_ BW2.out (.cells #[.bool (mkR b 5).num.neg, .slice P1 nP1 cP1, .slice P2 nP2 cP2] 29)) hb3)
  have r0 : w3.cell? ⟨w2.heap.size, 0, none⟩ = some (.bool (mkR b 5).num.neg) := (hb3.cell (p := ⟨w2.heap.size, 0, none⟩) (by simp)).trans (by go_simp)
  have r1 : w3.cell? ⟨w2.heap.size, 1, none⟩ = some (.slice P1 nP1 cP1) := (hb3.cell (p := ⟨w2.heap.size, 1, none⟩) (by simp)).trans (by go_simp)
  have r2 : w3.cell? ⟨w2.heap.size, 2, none⟩ = some (.slice P2 nP2 cP2) := (hb3.cell (p := ⟨w2.heap.size, 2, none⟩) (by simp)).trans (by go_simp)
  have hpl : w2.heap.size < w3.heap.size := by omega
  clear haM hoM hb3 hs3 HL2 HP2
  generalize w2.heap.size = pb at *
  go_wp2_with fail
  have C := impl_IsMarked L nL cL (us.map hf) _ _ (mkR b 5) _ M1 nM cM M _ w3 HL3.out HP3.out HM3.out
  rw [YES.out] at C
  refine C.mono ?_
  clear C
  rintro e w4 ⟨rfl, hb4⟩
  have HL4 := hid (HL3.out.below hb4); have HP4 := hid (HP3.out.below hb4); have HM4 := hid (HM3.out.below hb4); have BW4 := hid (Below.next BW3.out hb4)
  have hp4 : pb < w4.heap.size := by have := hb4.size; omega
  have s0 : w4.cell? ⟨pb, 0, none⟩ = some (.bool (mkR b 5).num.neg) := (World.cell?_of_block (a := ⟨pb, 0, none⟩) (hb4.block pb hpl)).trans r0
  have s1 : w4.cell? ⟨pb, 1, none⟩ = some (.slice P1 nP1 cP1) := (World.cell?_of_block (a := ⟨pb, 1, none⟩) (hb4.block pb hpl)).trans r1
  have s2 : w4.cell? ⟨pb, 2, none⟩ = some (.slice P2 nP2 cP2) := (World.cell?_of_block (a := ⟨pb, 2, none⟩) (hb4.block pb hpl)).trans r2
  clear hb4 r0 r1 r2 HL3 HP3 HM3
  go_wp2_with fail
  refine (impl_OrderOf L nL cL (us.map hf) _ w4 HL4.out hn6.out).mono ?_
  rintro e w5 ⟨OA, nO, cO, sO, rfl, haO, hoO, hb5⟩
  obtain rfl : nL = nO := by rw [← haO.1]; exact OLN.out.symm
  have HL4' := hid (HL4.out.below hb5); have HP4' := hid (HP4.out.below hb5); have HM4' := hid (HM4.out.below hb5); have BW5 := hid (Below.next BW4.out hb5)
  have hp5 : pb < w5.heap.size := by have := hb5.size; omega
  have r0 : w5.cell? ⟨pb, 0, none⟩ = some (.bool (mkR b 5).num.neg) := (World.cell?_of_block (a := ⟨pb, 0, none⟩) (hb5.block pb hp4)).trans s0
  have r1 : w5.cell? ⟨pb, 1, none⟩ = some (.slice P1 nP1 cP1) := (World.cell?_of_block (a := ⟨pb, 1, none⟩) (hb5.block pb hp4)).trans s1
  have r2 : w5.cell? ⟨pb, 2, none⟩ = some (.slice P2 nP2 cP2) := (World.cell?_of_block (a := ⟨pb, 2, none⟩) (hb5.block pb hp4)).trans s2
  clear haO hoO hb5 s0 s1 s2 HL4 HP4 HM4
  go_wp2_with fail
  refine (impl_GreatestOf L nL cL (us.map hf) _ w5 HL4'.out hn6.out).mono ?_
  rintro e w6 ⟨rfl, hb6⟩
  have hgr : ¬ (greatOf (us.map hf) < 0) := by have := GRT.out; omega
  have HL5 := hid (HL4'.out.below hb6); have HP5 := hid (HP4'.out.below hb6); have HM5 := hid (HM4'.out.below hb6); have BW6 := hid (Below.next BW5.out hb6)
  have hp6 : pb < w6.heap.size := by have := hb6.size; omega
  have s0 : w6.cell? ⟨pb, 0, none⟩ = some (.bool (mkR b 5).num.neg) := (World.cell?_of_block (a := ⟨pb, 0, none⟩) (hb6.block pb hp5)).trans r0
  have s1 : w6.cell? ⟨pb, 1, none⟩ = some (.slice P1 nP1 cP1) := (World.cell?_of_block (a := ⟨pb, 1, none⟩) (hb6.block pb hp5)).trans r1
  have s2 : w6.cell? ⟨pb, 2, none⟩ = some (.slice P2 nP2 cP2) := (World.cell?_of_block (a := ⟨pb, 2, none⟩) (hb6.block pb hp5)).trans r2
  have hM6 := hid (show nM ≤ 6 by rw [← MN.out]; have := MF.out.len; have := HUS.out.1.len; omega)
  have B56 := hid (Below.refl w6.heap.size w6)
  clear hb6 r0 r1 r2 HL4' HP4' HM4' hnM hnl
  go_wp2_with fail
  go_loopg [38] nM (fun g s wr => ∃ i : Nat, i + g = nM ∧ s = .int .i64 i ∧ Hid (Below w6.heap.size w6 wr))
  case atStart => exact ⟨0, by omega, rfl, Below.refl _ _⟩
  case round =>
    obtain ⟨i, hk, rfl, hb⟩ := hrel
    have hpbr : pb < wr.heap.size := by have := hb.out.size; omega
    have k0 : wr.cell? ⟨pb, 0, none⟩ = some (.bool (mkR b 5).num.neg) := (World.cell?_of_block (a := ⟨pb, 0, none⟩) (hb.out.block pb hp6)).trans s0
    have k1 : wr.cell? ⟨pb, 1, none⟩ = some (.slice P1 nP1 cP1) := (World.cell?_of_block (a := ⟨pb, 1, none⟩) (hb.out.block pb hp6)).trans s1
    have k2 : wr.cell? ⟨pb, 2, none⟩ = some (.slice P2 nP2 cP2) := (World.cell?_of_block (a := ⟨pb, 2, none⟩) (hb.out.block pb hp6)).trans s2
    clear s0 s1 s2
    rcases Nat.lt_or_ge i nM with hin | hin
    · obtain ⟨g, rfl⟩ : ∃ g, gk = g + 1 := ⟨gk - 1, by omega⟩
      have hk' := hid (show i + 1 + g = nM by omega)
      have hii : (i : Int) < nM := by omega
      have hi0 : (0 : Int) ≤ i := by omega
      obtain ⟨bm, om, x, rfl, hbm, hx1, _, _⟩ := Sl.getInt (HM5.out.below hb.out) hin
      have hcm := HM5.out.2.1
      have hicM : (i : Int) ≤ cM := by omega
      have hi1M : (i : Int) + 1 ≤ nM := by omega
      have hi1z : (0 : Int) ≤ (i : Int) + 1 := by omega
      have hwr : IntKind.i64.wrap ((i : Int) + 1) = (i : Int) + 1 := IntWalk.i64_in _ (by have := hM6.out; omega)
      have hi1c : (i : Int) + 1 ≤ cM := by omega
      have hnc : (nM : Int) ≤ cM := by omega
      have NO := hid (NOS.out i (by rw [MN.out]; exact hin))
      have CEL := hid (show ∀ j y, M[j]? = some y → wr.cell? ⟨bm, om + j, none⟩ = some (.int .i64 y) from fun j y hj => by
        obtain ⟨b', o', z, e, _, hz, _, hc⟩ := Sl.getInt (HM5.out.below hb.out) (k := j) (by rw [← MN.out]; exact (List.getElem?_eq_some_iff.1 hj).1)
        injection e with e; injection e with e1 e2 _
        subst e1; subst e2
        rw [hj] at hz; injection hz with hz; subst hz; exact hc)
      have NW1 := hid (show ∀ j u, ((M.take i).map (Value.int .i64))[j]? = some u → (wr.alloc (.cells #[] 3)).cell? ((⟨bm, om, none⟩ : Addr).add j) = some u from fun j u hu => by
        rw [List.getElem?_map] at hu
        obtain ⟨y, hy, rfl⟩ := Option.map_eq_some_iff.1 hu
        have hj : j < i := by have := (List.getElem?_eq_some_iff.1 hy).1; rw [List.length_take] at this; omega
        rw [List.getElem?_take_of_lt hj] at hy
        have e : (⟨bm, om, none⟩ : Addr).add j = ⟨bm, om + j, none⟩ := by unfold Addr.add; split <;> simp_all
        rw [e]
        exact (World.cell?_of_block ((Below.box _).block bm hbm)).trans (CEL.out j y hy))
      have LT := hid (show ((M.take i).map (Value.int .i64)).length = i * 1 by rw [List.length_map, List.length_take, MN.out]; omega)
      have LD := hid (show ((M.drop (i + 1)).map (Value.int .i64)).length = (nM - (i + 1)) * 1 by rw [List.length_map, List.length_drop, MN.out]; omega)
      have JL := hid (show (M.take i ++ M.drop (i + 1)).length = i + (nM - (i + 1)) by rw [List.length_append, List.length_take, List.length_drop, MN.out]; omega)
      have JI := hid (show ∀ x ∈ M.take i ++ M.drop (i + 1), I64 x from fun x hx => by
        have := MF.out.places x ((List.mem_append.1 hx).elim List.mem_of_mem_take List.mem_of_mem_drop)
        have := HUS.out.1.len
        unfold I64; omega)
      have hM6' := hM6.out
      have C3 := hid (show 0 + i ≤ maxLen by unfold maxLen; omega)
      have C4 := hid (show (0 + i) * 8 ≤ 140737488355328 by omega)
      have C5 := hid (show i + (nM - (i + 1)) ≤ maxLen by unfold maxLen; omega)
      have C6 := hid (show (i + (nM - (i + 1))) * 8 ≤ 140737488355328 by omega)
      have hsub : ((nM : Int) - ((i : Int) + 1)) = ((nM - (i + 1) : Nat) : Int) := by omega
      by_cases hca : cM = i + 1
      · have hnM : nM = i + 1 := by omega
        have Z1 := hid (show nM - (i + 1) = 0 by omega)
        have Z2 := hid (show (M.drop (i + 1)).map (Value.int .i64) = [] by rw [List.drop_eq_nil_of_le (by rw [MN.out]; omega)]; rfl)
        subst hca
        clear hk hin hx1 hnM
        go_wp2_with (at_builtin; refine wpList_push rfl _ _ 25 rfl wr.heap.size 3 i0 (.int .i64 0) 1 8 Tryz.underlying25 hi hz0 hz1 hz2 rfl (by decide) wr.heap.size 0 0 [] rfl (World.ownsRow_made wr #[] 0 (Nat.le_refl _) (Nat.zero_le _) rfl) ⟨bm, om, none⟩ i (i + 1) ((M.take i).map (.int .i64)) rfl LT.out NW1.out (one_ints _) C3.out C4.out (le_alloc (Nat.le_refl _) _) ?_; intro g1 cap1 w7 hown7 hgrow7 hor7)
        have B7 := hid (show Below wr.heap.size wr w7 from ((Below.refl _ wr).alloc (Nat.le_refl _) _).grown hgrow7 (le_alloc (Nat.le_refl _) _) (fun k hk => by injection hk with h; subst h; exact Nat.le_refl _))
        have O7 := hid (show w7.ownsRow wr.heap.size 3 1 (.slice (some ⟨g1, 0, none⟩) i cap1) i ((M.take i).map (.int .i64)) by have h := hown7; rwa [Nat.zero_add, List.nil_append] at h)
        have G1 := hid (show wr.heap.size ≤ g1 from (World.ownsRow.lt hown7 _ rfl).1)
        rw [Nat.zero_add] at *
        clear hown7 hgrow7 hor7
        have hpb7 : pb < w7.heap.size := by have := B7.out.size; omega
        have hpg : pb ≠ g1 := by have := G1.out; omega
        have r0 : w7.cell? ⟨pb, 0, none⟩ = some (.bool (mkR b 5).num.neg) := (World.cell?_of_block (a := ⟨pb, 0, none⟩) (B7.out.block pb hpbr)).trans k0
        have r1 : w7.cell? ⟨pb, 1, none⟩ = some (.slice P1 nP1 cP1) := (World.cell?_of_block (a := ⟨pb, 1, none⟩) (B7.out.block pb hpbr)).trans k1
        have r2 : w7.cell? ⟨pb, 2, none⟩ = some (.slice P2 nP2 cP2) := (World.cell?_of_block (a := ⟨pb, 2, none⟩) (B7.out.block pb hpbr)).trans k2
        have W7 := hid (show wr.heap.size ≤ w7.heap.size from B7.out.size)
        have BG := hid (fun (W : World) (h : w7.drew.grownBy W (some g1)) => show Below wr.heap.size wr W from (show Below wr.heap.size wr w7.drew from ⟨B7.out.os, B7.out.tape, B7.out.output, B7.out.size, B7.out.block⟩).grown h B7.out.size (fun k hk => by injection hk with h; subst h; exact G1.out))
        have CF := hid (fun (W : World) (g2 cap2 : Nat) (h8 : W.ownsRow wr.heap.size 3 1 (.slice (some ⟨g2, 0, none⟩) (i + 0) cap2) (i + 0) ((M.take i).map (.int .i64) ++ ([] : List Value))) (hB : Below wr.heap.size wr W) =>
          show Calls Tryz.prog 7 #[.slice L nL cL, .agg #[.bool (mkR b 5).num.neg, .slice P1 nP1 cP1, .slice P2 nP2 cP2], .slice (some ⟨g2, 0, none⟩) (i + 0) cap2] W (Gives W (.bool false)) by
            have hB0 := Below.next (Below.next B56.out hb.out) hB
            have h8 : W.ownsRow wr.heap.size 3 1 (.slice (some ⟨g2, 0, none⟩) (i + (nM - (i + 1))) cap2) (i + (nM - (i + 1))) ((M.take i).map (.int .i64) ++ (M.drop (i + 1)).map (.int .i64)) := by rw [Z1.out, Z2.out]; exact h8
            rw [← List.map_append] at h8
            obtain ⟨A', n', c', bs', e, hs, _, _⟩ := gives_row (w := wr) h8 JL.out (fun x hx => JI.out x hx) hB
            injection e with e; injection e with e1 e2 e3
            subst e1; subst e2; subst e3
            have C := impl_IsMarked L nL cL (us.map hf) _ _ (mkR b 5) _ _ _ _ _ _ W (HL5.out.below hB0) (HP5.out.below hB0) hs
            rw [NO.out] at C
            rw [Z1.out] at C
            exact C)
        go_wp2_with fail
        go_region_held3 (fun w' => w'.cell? ⟨pb, 0, none⟩ = some (.bool (mkR b 5).num.neg) ∧ w'.cell? ⟨pb, 1, none⟩ = some (.slice P1 nP1 cP1) ∧ w'.cell? ⟨pb, 2, none⟩ = some (.slice P2 nP2 cP2))
          (first
            | go_keep
            | (go_split_ands
               refine ⟨?_, ?_, ?_⟩
               · exact (hb9.cell (p := ⟨pb, 0, none⟩) (Nat.lt_of_lt_of_le hpb7 hgrow8.size)).trans (by assumption)
               · exact (hb9.cell (p := ⟨pb, 1, none⟩) (Nat.lt_of_lt_of_le hpb7 hgrow8.size)).trans (by assumption)
               · exact (hb9.cell (p := ⟨pb, 2, none⟩) (Nat.lt_of_lt_of_le hpb7 hgrow8.size)).trans (by assumption))
            | (go_split_ands
               refine ⟨?_, ?_, ?_⟩
               · (rw [hgrow8.cell_far _ (by simpa using hpb7) (by simpa using hpg)]; first | assumption | (simp; assumption))
               · (rw [hgrow8.cell_far _ (by simpa using hpb7) (by simpa using hpg)]; first | assumption | (simp; assumption))
               · (rw [hgrow8.cell_far _ (by simpa using hpb7) (by simpa using hpg)]; first | assumption | (simp; assumption))))
          ((first
            | (refine step_push (by rfl) _ _ _ (by rfl) wr.heap.size 3 i0 (.int .i64 0) 1 8 Tryz.underlying25 hi hz0 hz1 hz2 rfl (by decide) g1 i cap1 ((M.take i).map (.int .i64)) (by rfl) O7.out.drew ⟨bm, om, none⟩ 0 0 ([] : List Value) (by rfl) (by rfl) (fun j u hu => by simp at hu) (fun u hu => by simp at hu) (by have := C5.out; omega) (by have := C6.out; omega) W7.out ?_; intro g2 cap2 w8 hown8 hgrow8 hor8)
            | (go_at_call 7; refine (CF.out _ g2 cap2 hown8 (BG.out _ hgrow8)).mono ?_; rintro _ w9 ⟨rfl, hb9⟩)))
        go_wp2_with fail
        go_roundg g
        case measure => omega
        case rel => exact ⟨i + 1, hk'.out, by go_num, Below.next (Below.next hb.out (BG.out _ hgrow8)) hb9⟩
      · have hca' : ¬ ((cM : Int) = (i : Int) + 1) := by omega
        have hca2 : ¬ (i + 1 = cM) := by omega
        have hca3 : ¬ ((i : Int) + 1 = (cM : Int)) := by omega
        have hca4 : ¬ (cM - (i + 1) = 0) := by omega
        have hca5 : i + 1 < cM := by omega
        have NW0 := hid (show ∀ j u, ((M.drop (i + 1)).map (Value.int .i64))[j]? = some u → (((⟨bm, om + (i + 1), none⟩ : Addr).add j).block < wr.heap.size ∧ wr.cell? ((⟨bm, om + (i + 1), none⟩ : Addr).add j) = some u) from fun j u hu => by
          rw [List.getElem?_map] at hu
          obtain ⟨y, hy, rfl⟩ := Option.map_eq_some_iff.1 hu
          rw [List.getElem?_drop] at hy
          have e : (⟨bm, om + (i + 1), none⟩ : Addr).add j = ⟨bm, om + (i + 1 + j), none⟩ := by unfold Addr.add; split <;> simp_all [Nat.add_assoc]
          rw [e]
          exact ⟨hbm, CEL.out _ y hy⟩)
        clear hk hin hx1
        go_wp2_with (at_builtin; refine wpList_push rfl _ _ 25 rfl wr.heap.size 3 i0 (.int .i64 0) 1 8 Tryz.underlying25 hi hz0 hz1 hz2 rfl (by decide) wr.heap.size 0 0 [] rfl (World.ownsRow_made wr #[] 0 (Nat.le_refl _) (Nat.zero_le _) rfl) ⟨bm, om, none⟩ i cM ((M.take i).map (.int .i64)) rfl LT.out NW1.out (one_ints _) C3.out C4.out (le_alloc (Nat.le_refl _) _) ?_; intro g1 cap1 w7 hown7 hgrow7 hor7)
        have B7 := hid (show Below wr.heap.size wr w7 from ((Below.refl _ wr).alloc (Nat.le_refl _) _).grown hgrow7 (le_alloc (Nat.le_refl _) _) (fun k hk => by injection hk with h; subst h; exact Nat.le_refl _))
        have O7 := hid (show w7.ownsRow wr.heap.size 3 1 (.slice (some ⟨g1, 0, none⟩) i cap1) i ((M.take i).map (.int .i64)) by have h := hown7; rwa [Nat.zero_add, List.nil_append] at h)
        have G1 := hid (show wr.heap.size ≤ g1 from (World.ownsRow.lt hown7 _ rfl).1)
        rw [Nat.zero_add] at *
        clear hown7 hgrow7 hor7
        have hpb7 : pb < w7.heap.size := by have := B7.out.size; omega
        have hpg : pb ≠ g1 := by have := G1.out; omega
        have r0 : w7.cell? ⟨pb, 0, none⟩ = some (.bool (mkR b 5).num.neg) := (World.cell?_of_block (a := ⟨pb, 0, none⟩) (B7.out.block pb hpbr)).trans k0
        have r1 : w7.cell? ⟨pb, 1, none⟩ = some (.slice P1 nP1 cP1) := (World.cell?_of_block (a := ⟨pb, 1, none⟩) (B7.out.block pb hpbr)).trans k1
        have r2 : w7.cell? ⟨pb, 2, none⟩ = some (.slice P2 nP2 cP2) := (World.cell?_of_block (a := ⟨pb, 2, none⟩) (B7.out.block pb hpbr)).trans k2
        have NW2 := hid (show ∀ j u, ((M.drop (i + 1)).map (Value.int .i64))[j]? = some u → w7.drew.cell? ((⟨bm, om + (i + 1), none⟩ : Addr).add j) = some u from fun j u hu => by
          have h := NW0.out j u hu
          obtain ⟨hlt, hc⟩ := h
          rw [World.cell?_drew]
          exact (World.cell?_of_block (B7.out.block _ hlt)).trans hc)
        have W7 := hid (show wr.heap.size ≤ w7.heap.size from B7.out.size)
        have BG := hid (fun (W : World) (h : w7.drew.grownBy W (some g1)) => show Below wr.heap.size wr W from (show Below wr.heap.size wr w7.drew from ⟨B7.out.os, B7.out.tape, B7.out.output, B7.out.size, B7.out.block⟩).grown h B7.out.size (fun k hk => by injection hk with h; subst h; exact G1.out))
        have CF := hid (fun (W : World) (g2 cap2 : Nat) (h8 : W.ownsRow wr.heap.size 3 1 (.slice (some ⟨g2, 0, none⟩) (i + (nM - (i + 1))) cap2) (i + (nM - (i + 1))) ((M.take i).map (.int .i64) ++ ((M.drop (i + 1)).map (.int .i64)))) (hB : Below wr.heap.size wr W) =>
          show Calls Tryz.prog 7 #[.slice L nL cL, .agg #[.bool (mkR b 5).num.neg, .slice P1 nP1 cP1, .slice P2 nP2 cP2], .slice (some ⟨g2, 0, none⟩) (i + (nM - (i + 1))) cap2] W (Gives W (.bool false)) by
            have hB0 := Below.next (Below.next B56.out hb.out) hB
            rw [← List.map_append] at h8
            obtain ⟨A', n', c', bs', e, hs, _, _⟩ := gives_row (w := wr) h8 JL.out (fun x hx => JI.out x hx) hB
            injection e with e; injection e with e1 e2 e3
            subst e1; subst e2; subst e3
            have C := impl_IsMarked L nL cL (us.map hf) _ _ (mkR b 5) _ _ _ _ _ _ W (HL5.out.below hB0) (HP5.out.below hB0) hs
            rw [NO.out] at C
            exact C)
        go_wp2_with fail
        go_region_held3 (fun w' => w'.cell? ⟨pb, 0, none⟩ = some (.bool (mkR b 5).num.neg) ∧ w'.cell? ⟨pb, 1, none⟩ = some (.slice P1 nP1 cP1) ∧ w'.cell? ⟨pb, 2, none⟩ = some (.slice P2 nP2 cP2))
          (first
            | go_keep
            | (go_split_ands
               refine ⟨?_, ?_, ?_⟩
               · exact (hb9.cell (p := ⟨pb, 0, none⟩) (Nat.lt_of_lt_of_le hpb7 hgrow8.size)).trans (by assumption)
               · exact (hb9.cell (p := ⟨pb, 1, none⟩) (Nat.lt_of_lt_of_le hpb7 hgrow8.size)).trans (by assumption)
               · exact (hb9.cell (p := ⟨pb, 2, none⟩) (Nat.lt_of_lt_of_le hpb7 hgrow8.size)).trans (by assumption))
            | (go_split_ands
               refine ⟨?_, ?_, ?_⟩
               · (rw [hgrow8.cell_far _ (by simpa using hpb7) (by simpa using hpg)]; first | assumption | (simp; assumption))
               · (rw [hgrow8.cell_far _ (by simpa using hpb7) (by simpa using hpg)]; first | assumption | (simp; assumption))
               · (rw [hgrow8.cell_far _ (by simpa using hpb7) (by simpa using hpg)]; first | assumption | (simp; assumption))))
          ((first
            | (refine step_push (by rfl) _ _ _ (by rfl) wr.heap.size 3 i0 (.int .i64 0) 1 8 Tryz.underlying25 hi hz0 hz1 hz2 rfl (by decide) g1 i cap1 ((M.take i).map (.int .i64)) (by rfl) O7.out.drew ⟨bm, om + (i + 1), none⟩ (nM - (i + 1)) (cM - (i + 1)) ((M.drop (i + 1)).map (.int .i64)) (by rfl) LD.out NW2.out (one_ints _) C5.out C6.out W7.out ?_; intro g2 cap2 w8 hown8 hgrow8 hor8)
            | (go_at_call 7; refine (CF.out _ g2 cap2 hown8 (BG.out _ hgrow8)).mono ?_; rintro _ w9 ⟨rfl, hb9⟩)))
        go_wp2_with fail
        go_roundg g
        case measure => omega
        case rel => exact ⟨i + 1, hk'.out, by go_num, Below.next (Below.next hb.out (BG.out _ hgrow8)) hb9⟩
    · have hii : ¬ ((i : Int) < nM) := by omega
      clear hk hin
      go_wp2_with fail
      refine (impl_SumOf L nL cL (us.map hf) _ wr (HL5.out.below hb.out)).mono ?_
      rintro e w7 ⟨v7, s7, rfl, ha7, ho7, hb7⟩
      obtain ⟨Q1, nQ1, cQ1, sQ1, Q2, nQ2, cQ2, sQ2, rfl, hq, _, _⟩ := TRat.agg ha7
      have HA7 := hid ha7
      clear ha7 ho7 hq
      go_wp2_with fail
      refine (impl_RatSign _ (rsum (us.map hf)) _ w7 HA7.out).mono ?_
      rintro e w8 ⟨rfl, hb8⟩
      have hrs := RSG.out
      go_wp2
      go_ret
      refine ⟨ret_bool (by simp), Below.next (Below.next (Below.next BW6.out hb.out) hb7) hb8⟩

theorem own : ownKnob Tryz.prog.godebug = none := by kernel_rfl
theorem laidOut : laidOutB Tryz.prog = true := by kernel_rfl

set_option maxRecDepth 100000 in
theorem lifted (os : Os) (started : os.Started) (H : Type) (enc : TypeId × Value → H) :
    ReturnsInHanded {} Tryz.checked os 3 .any (Rows.fnMarksSpec.pre6 enc Tryz.prog Tryz.f3 Rows.fnMarksRow.domain false) (Rows.fnMarksSpec.post enc Tryz.prog Tryz.f3 false true false false) := by
  refine returnsInHanded_of_change (C := Tryz.checked) own started (by kernel_rfl) Tryz.func3
    (ChangeSpec.witness6 (enc := enc) (C := Tryz.checked) false ⟨#[], #[.slice none 0 0], []⟩ 8 (by kernel_rfl) (by kernel_rfl) (by kernel_rfl) (by kernel_rfl)) ?_
  intro W base args ds gs before hval0 hW hcnd _
  have hval : ∀ (j : Nat) t v, Tryz.f3.params[j]? = some t → args[j]? = some v → Value.okWide Tryz.prog W .any base t v := hval0
  have hW' := hW
  obtain ⟨p, q, hA0, hV, rfl, hfz, hnd⟩ := hW
  have hA : DataW.TrodAll enc Tryz.prog W 0 (fun _ => true) true Tryz.f3.params.toList args.toList ds p := hA0
  rw [Tryz.params3] at hA hval
  obtain ⟨v0, vs0, d0, ds0, p0, q0, hargs, rfl, rfl, h0, r0⟩ := trodAll_cons hA
  obtain ⟨rfl, rfl, rfl⟩ := trodAll_nil r0
  obtain rfl : args = #[v0] := by cases args; simp_all
  obtain ⟨rfl, rfl⟩ := trodVars_none hV
  clear hA0 hval0
  simp only [List.append_nil] at hW'
  obtain ⟨A0, n0, c0, x0, b0, rfl, g0⟩ := Opens.sl oLTByte Tryz.underlying22 (hval 0 22 v0 rfl rfl) h0
  refine (walk _ _ _ x0 b0 W g0).mono fun e W' ⟨he, hB⟩ => ?_
  subst he
  have l0 : ∀ x ∈ p0, x.block < W.heap.size := fun x hx => hW'.lt x (by simp [hx])
  refine ⟨_, rfl, _, _, _, [], p0, [], hW', trodAll_cons_mk (shut_bool Tryz.underlying4 _) trodAll_mk0, ?_, rfl, hB.frame _, fun h => by cases h⟩
  have ha := trodAll_cons_mk (Below.trod laidOut (by kernel_rfl) (of_decide_eq_true (by kernel_rfl)) h0 hB l0) trodAll_mk0
  simp only [List.append_nil] at ha
  exact ha

theorem proved : Rows.FnMarksSaid :=
  OpenClaim.holds_of_wide 3 Tryz.f3 rfl rfl rfl rfl rfl rfl rfl ⟨rfl, rfl, rfl, rfl, rfl⟩ rfl rfl rfl rfl rfl (by kernel_rfl) Tryz.func3 (by kernel_rfl)
    (of_decide_eq_true (by kernel_rfl)) (by unfold Func.isWrapper; first | (rw [if_pos (by decide +kernel)]; kernel_rfl) | (rw [if_neg (by decide +kernel)]; exact ⟨rfl, rfl⟩))
    (fun os started H enc _ => lifted os started H enc)
#print axioms proved
end Go.Proofs.YtleegelljgnlpaaGreat.fnMarks
