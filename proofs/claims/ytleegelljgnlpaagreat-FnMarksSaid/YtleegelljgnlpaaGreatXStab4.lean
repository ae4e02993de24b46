/- Stable sorting, walked: symMergeCmpFunc, where the right side has one element. -/
import Derived.Test.YtleegelljgnlpaaGreatXStab3
namespace Go.Proofs.YtleegelljgnlpaaGreat.X
open Go.RowKit Go.XB Go.XN Go.XS
attribute [local go_sem] fillBy opAt deps depOf Region.wanted yielded
attribute [local simp] deps depOf MP.eq MP.agg MP.sl Facts
set_option linter.constructorNameAsVariable false

set_option maxHeartbeats 4000000 in
set_option maxRecDepth 20000 in
theorem sort_symRight (base g n cap a m F : Nat) (pv : Value) (cf : Int → Int → Int) (le : Int → Int → Bool) (P L Q : List Int) (y : Int) (w : World) (hr : Row w base g n cap (P ++ L ++ [y] ++ Q)) (ha : P.length = a) (hm : a + L.length = m) (h2 : 2 ≤ L.length) (hn : n ≤ 1048576)
    (hc : Cmp w g n F pv cf le) (hy : 0 ≤ y ∧ y < n) (hL : ∀ x ∈ L, (0 ≤ x ∧ x < n) ∧ x < y) (hs : Srt le L) :
    Calls Tryz.prog 79 #[.slice (some ⟨g, 0, none⟩) n cap, .int .i64 a, .int .i64 m, .int .i64 ((m : Int) + 1), .func (.func F) #[] #[pv]] w (RowTo w base g n cap (P ++ (L ++ [y]).mergeSort le ++ Q)) := by
  have HR := hid hr; have HA := hid ha; have HC := hid hc; have HY := hid hy; have HLL := hid hL; have HS := hid hs
  have hk := hc.known
  unfold Known at hk
  have hln := row_len hr
  have hl1 : a + L.length + 1 + Q.length = n := by rw [← hln]; simp; omega
  have hmn : (m : Int) < n := by omega
  have han : a ≤ m := by omega
  have HLN := hid (show L.length = m - a by omega)
  have ham : ((m : Int) - a == 1) = false := by simp; omega
  have hbm : ((m : Int) + 1 - m == 1) = true := by simp; omega
  clear hr ha hm hc hy hL hs hln hl1 h2
  go_enter Tryz.func79, Tryz.ntmps79
  go_wp2_with fail
  go_loopg [14, 15] (m - a) (fun gh s1 s2 wr => ∃ (i j : Nat), j ≤ i + gh ∧ (a ≤ i ∧ i ≤ j ∧ j ≤ m) ∧ s1 = .int .i64 i ∧ s2 = .int .i64 j ∧ Hid ((∀ z, a < i → L[i - 1 - a]? = some z → le z y = true) ∧ (∀ z, L[j - a]? = some z → le y z = true)) ∧ Hid (Row wr base g n cap (P ++ L ++ [y] ++ Q) ∧ w.grownBy wr (some g)))
  case atStart => exact ⟨a, m, by omega, by omega, rfl, rfl, ⟨fun z h => absurd h (Nat.lt_irrefl _), fun z h => by rw [List.getElem?_eq_none (by rw [HLN.out]; exact Nat.le_refl _)] at h; cases h⟩, HR.out, World.grownBy.refl _ _⟩
  case round =>
    obtain ⟨i, j, hgh, ⟨hi1, hij, hjb⟩, rfl, rfl, hq, hw⟩ := hrel
    rcases Nat.lt_or_ge i j with hlt | hge
    · have hlt' : (i : Int) < j := by omega
      obtain ⟨h, hh⟩ : ∃ h : Nat, h = (i + j) / 2 := ⟨_, rfl⟩
      have hhi : ((i : Int) + j) / 2 = (h : Int) := by omega
      have hb1 : i ≤ h ∧ h < j := by omega
      obtain ⟨gh, rfl⟩ : ∃ gh', gk = gh' + 1 := ⟨gk - 1, by omega⟩
      have HG1 := hid (show j ≤ (h + 1) + gh ∧ (a ≤ h + 1 ∧ h + 1 ≤ j ∧ j ≤ m) by omega)
      have HG2 := hid (show h ≤ i + gh ∧ (a ≤ i ∧ i ≤ h ∧ h ≤ m) by omega)
      have hrl := HLN.out
      obtain ⟨z, hz⟩ : ∃ z, L[h - a]? = some z := ⟨L[h - a]'(by omega), List.getElem?_eq_getElem (by omega)⟩
      have HZ := hid (HLL.out z (List.mem_of_getElem? hz))
      have HZ1 := hid hz
      have g1 : (P ++ L ++ [y] ++ Q)[h]? = some z := by
        have e : P ++ L ++ [y] ++ Q = P ++ (L ++ ([y] ++ Q)) := by simp
        have := get_at (P := P) (R := L ++ ([y] ++ Q)) (a := a) (k := h - a) HA.out
        rw [e, show h = a + (h - a) by omega, this, List.getElem?_append_left (by omega)]; exact hz
      have g2 : (P ++ L ++ [y] ++ Q)[m]? = some y := by
        have e : P ++ L ++ [y] ++ Q = (P ++ L) ++ y :: Q := by simp
        rw [e, show m = (P ++ L).length by rw [List.length_append, HA.out, hrl]; omega]; exact get_mid
      obtain ⟨hgl, c1, f1⟩ := row_cell hw.out.1 g1
      obtain ⟨_, c2, f2⟩ := row_cell hw.out.1 g2
      have hhn : (h : Int) < n := by omega
      have HCW := hid (fun (w' : World) (hb : Below wr.heap.size wr w') => (HC.out.from_ hw.out.2).from_ (grown_below hb _))
      have QL := hid (fun (hl : ¬ cf y z < 0) => (show (∀ u, a < h + 1 → L[h + 1 - 1 - a]? = some u → le u y = true) ∧ (∀ u, L[j - a]? = some u → le y u = true) from ⟨fun u _ hu => by
        rw [Nat.add_sub_cancel, HZ1.out] at hu; cases hu; exact HC.out.more z y HZ.out.2 hl, hq.out.2⟩))
      have QM := hid (fun (hl : cf y z < 0) => (show (∀ u, a < i → L[i - 1 - a]? = some u → le u y = true) ∧ (∀ u, L[h - a]? = some u → le y u = true) from ⟨hq.out.1, fun u hu => by
        rw [HZ1.out] at hu; cases hu; exact HC.out.less z y HZ.out.2 hl⟩))
      clear hh hgh hi1 hij hjb hlt hz hrl g1 g2 hb1
      by_cases hl : cf y z < 0
      · have Q1 := hid (QM.out hl)
        have hnb : (!decide (cf y z < 0)) = false := by simp [hl]
        go_wp2_with fail
        refine wp_region_walk (by kernel_rfl) (by kernel_rfl) (by kernel_rfl) ?_
        iterate 9
          apply walkM_eq
          case h =>
            intro yq zq wq hC hd
            obtain ⟨hcq, hfq⟩ := bcell hC
            simp at hd
            refine ⟨by go_simp; done, ?_⟩
            go_simp
            first | (go_ints; exact rfl) | (go_ints; rw [if_pos (by omega)]; try exact rfl) | exact rfl | (rw [if_pos (by omega)]; try exact rfl)
        refine walkM_call (MP.eq (.int .i64 (cf y z))) ?_ ?_
        · intro yq zq wq hC hd
          obtain ⟨hcq, hfq⟩ := bcell hC
          simp at hd
          refine ⟨by go_simp; done, ?_⟩
          apply Exists.intro
          apply Exists.intro
          constructor
          · go_simp
            exact ⟨rfl, rfl⟩
          · exact gives_eq ((HCW.out wq hC).call wq (World.grownBy.refl _ _) y z HY.out HZ.out.1)
        iterate 2
          apply walkM_eq
          case h =>
            intro yq zq wq hC hd
            obtain ⟨hcq, hfq⟩ := bcell hC
            simp at hd
            refine ⟨by go_simp; done, ?_⟩
            go_simp
            first | (go_ints; exact rfl) | (go_ints; rw [if_pos (by omega)]; try exact rfl) | exact rfl | (rw [if_pos (by omega)]; try exact rfl)
        intro yq zq wz hC hd hdis0
        have hdis := hid hdis0
        clear hdis0
        simp at hd
        have RZ := hid (hw.out.1.below hC)
        have GZ := hid ((hw.out.2).trans (grown_below hC _))
        go_simp
        clear hd hdis
        go_wp2
        go_roundg gh
        case measure => omega
        case rel => exact ⟨i, h, HG2.out.1, HG2.out.2, rfl, rfl, Q1.out, RZ.out, GZ.out⟩
      · have Q1 := hid (QL.out hl)
        have hnb : (!decide (cf y z < 0)) = true := by rw [decide_eq_false hl]; rfl
        go_wp2_with fail
        refine wp_region_walk (by kernel_rfl) (by kernel_rfl) (by kernel_rfl) ?_
        iterate 9
          apply walkM_eq
          case h =>
            intro yq zq wq hC hd
            obtain ⟨hcq, hfq⟩ := bcell hC
            simp at hd
            refine ⟨by go_simp; done, ?_⟩
            go_simp
            first | (go_ints; exact rfl) | (go_ints; rw [if_pos (by omega)]; try exact rfl) | exact rfl | (rw [if_pos (by omega)]; try exact rfl)
        refine walkM_call (MP.eq (.int .i64 (cf y z))) ?_ ?_
        · intro yq zq wq hC hd
          obtain ⟨hcq, hfq⟩ := bcell hC
          simp at hd
          refine ⟨by go_simp; done, ?_⟩
          apply Exists.intro
          apply Exists.intro
          constructor
          · go_simp
            exact ⟨rfl, rfl⟩
          · exact gives_eq ((HCW.out wq hC).call wq (World.grownBy.refl _ _) y z HY.out HZ.out.1)
        iterate 2
          apply walkM_eq
          case h =>
            intro yq zq wq hC hd
            obtain ⟨hcq, hfq⟩ := bcell hC
            simp at hd
            refine ⟨by go_simp; done, ?_⟩
            go_simp
            first | (go_ints; exact rfl) | (go_ints; rw [if_pos (by omega)]; try exact rfl) | exact rfl | (rw [if_pos (by omega)]; try exact rfl)
        intro yq zq wz hC hd hdis0
        have hdis := hid hdis0
        clear hdis0
        simp at hd
        have RZ := hid (hw.out.1.below hC)
        have GZ := hid ((hw.out.2).trans (grown_below hC _))
        go_simp
        clear hd hdis
        go_wp2
        go_roundg gh
        case measure => omega
        case rel => exact ⟨h + 1, j, HG1.out.1, HG1.out.2, by go_num, rfl, Q1.out, RZ.out, GZ.out⟩
    · have hij' : i = j := by omega
      subst hij'
      have hge' : ¬ ((i : Int) < i) := by omega
      have E := hid (sort_insert HC.out.ord HS.out y (j := i - a) (fun z h1 h2 => hq.out.1 z (by omega) (by rw [show i - 1 - a = i - a - 1 by omega]; exact h2)) hq.out.2 (by have := HLN.out; omega))
      have hia : a ≤ i := hi1
      have him : i ≤ m := hjb
      clear hgh hi1 hij hjb hge
      go_wp2_with fail
      go_loopg [17] (m - i) (fun gh s1 wr => ∃ (k : Nat) (L1 L2 : List Int), k = i + gh ∧ k ≤ m ∧ s1 = .int .i64 k ∧ Hid ((L = L1 ++ L2 ∧ a + L1.length = k)) ∧ Hid (Row wr base g n cap (P ++ L1 ++ y :: (L2 ++ Q)) ∧ w.grownBy wr (some g)))
      case atStart => exact ⟨m, L, [], by omega, Nat.le_refl _, rfl, ⟨by simp, by have := HLN.out; omega⟩, by have := hw.out.1; simpa using this, hw.out.2⟩
      case round =>
        clear hw
        obtain ⟨k, L1, L2, hkg, hkm, rfl, hp, hr2⟩ := hrel
        rcases Nat.lt_or_ge i k with hlt | hge
        · obtain ⟨kp, rfl⟩ : ∃ k', k = k' + 1 := ⟨k - 1, by omega⟩
          obtain ⟨gj, rfl⟩ : ∃ g', gk = g' + 1 := ⟨gk - 1, by omega⟩
          have HG := hid (show kp = i + gj ∧ kp ≤ m by omega)
          obtain ⟨L0, z, hL1⟩ : ∃ L0 z, L1 = L0 ++ [z] := by
            rcases List.eq_nil_or_concat L1 with h | ⟨l, z, h⟩
            · exfalso; have := hp.out.2; rw [h] at this; simp at this; omega
            · exact ⟨l, z, by rw [h, List.concat_eq_append]⟩
          subst hL1
          have hpl : (P ++ L0).length = kp := by have h1 := hp.out.2; have h2 := HA.out; simp at h1 ⊢; omega
          have hrow' : Row wr base g n cap ((P ++ L0) ++ z :: ([] ++ y :: (L2 ++ Q))) := by have := hr2.out.1; simpa using this
          have g1 := get_mid (P := P ++ L0) (x := z) (Q := [] ++ y :: (L2 ++ Q))
          have g2 := get_mid2 (P := P ++ L0) (M := []) (Q := L2 ++ Q) (x := z) (y := y)
          have hset := set_swap (P := P ++ L0) (M := []) (Q := L2 ++ Q) (x := z) (y := y)
          rw [hpl] at g1 g2 hset
          simp only [List.length_nil, Nat.add_zero] at g2 hset
          obtain ⟨k1, hk1⟩ : ∃ k1, k1 = kp + 1 := ⟨_, rfl⟩
          rw [← hk1] at g2 hset
          obtain ⟨hgl, c1, f1⟩ := row_cell hrow' g1
          obtain ⟨_, c2, f2⟩ := row_cell hrow' g2
          have RW := hid (show Row ((wr.setCell ⟨g, k1, none⟩ (.int .i64 z)).setCell ⟨g, kp, none⟩ (.int .i64 y)) base g n cap (P ++ L0 ++ y :: (z :: L2 ++ Q)) ∧ w.grownBy ((wr.setCell ⟨g, k1, none⟩ (.int .i64 z)).setCell ⟨g, kp, none⟩ (.int .i64 y)) (some g) by
            refine ⟨?_, (hr2.out.2.trans (hrow'.grown _ _)).trans ((hrow'.set _ _).grown _ _)⟩
            have h := (hrow'.set k1 z).set kp y
            rw [List.set_comm _ _ (by omega), hset] at h
            simpa using h)
          have e0 : ((kp : Int) + 1).toNat = k1 := by omega
          have q1 : (kp : Int) + 1 < n := by omega
          have q2 : (kp : Int) < n := by omega
          have q3 : (i : Int) < (kp : Int) + 1 := by omega
          have P2 := hid (show L = L0 ++ (z :: L2) ∧ a + L0.length = kp from ⟨by rw [hp.out.1]; simp, by have := hp.out.2; simp at this; omega⟩)
          clear hkg hkm hlt hset g1 g2 hrow' hpl hk1
          go_wp2_with fail
          go_big_region
          all_goals go_wp2
          go_roundg gj
          case measure => omega
          case rel => exact ⟨kp, L0, z :: L2, HG.out.1, HG.out.2, by go_num, P2.out, RW.out.1.drew, RW.out.2.trans (grown_drew _ _)⟩
        · have hke : k = i := by omega
          subst hke
          have hlt' : ¬ ((k : Int) < (k : Int)) := by omega
          have RW := hid (show Row wr base g n cap (P ++ (L ++ [y]).mergeSort le ++ Q) by
            have h1 : k - a = L1.length := by have := hp.out.2; omega
            have := hr2.out.1
            rw [sort_snoc HC.out.ord, E.out, h1]
            rw [show L.take L1.length = L1 by rw [hp.out.1, List.take_left], show L.drop L1.length = L2 by rw [hp.out.1, List.drop_left]]
            simpa using this)
          clear hkg hkm hge
          go_wp2
          go_end0
          exact ⟨rfl, by simpa using RW.out, hr2.out.2⟩
end Go.Proofs.YtleegelljgnlpaaGreat.X
