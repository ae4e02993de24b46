/- Stable sorting, walked: symMergeCmpFunc, where one side has one element. -/
import Derived.Test.YtleegelljgnlpaaGreatXStab2
namespace Go.Proofs.YtleegelljgnlpaaGreat.X
open Go.RowKit Go.XB Go.XN Go.XS
attribute [local go_sem] fillBy opAt deps depOf Region.wanted yielded
attribute [local simp] deps depOf MP.eq MP.agg MP.sl Facts
set_option linter.constructorNameAsVariable false

theorem get_at {P R : List Int} {a k : Nat} (ha : P.length = a) : (P ++ R)[a + k]? = R[k]? := by
  rw [List.getElem?_append_right (by omega)]; congr 1; omega

set_option maxHeartbeats 4000000 in
set_option maxRecDepth 20000 in
theorem sort_symLeft (base g n cap a b F : Nat) (pv : Value) (cf : Int → Int → Int) (le : Int → Int → Bool) (P R Q : List Int) (x : Int) (w : World) (hr : Row w base g n cap (P ++ [x] ++ R ++ Q)) (ha : P.length = a) (hb : a + 1 + R.length = b) (hn : n ≤ 1048576)
    (hc : Cmp w g n F pv cf le) (hx : 0 ≤ x ∧ x < n) (hR : ∀ y ∈ R, (0 ≤ y ∧ y < n) ∧ x < y) (hs : Srt le R) :
    Calls Tryz.prog 79 #[.slice (some ⟨g, 0, none⟩) n cap, .int .i64 a, .int .i64 ((a : Int) + 1), .int .i64 b, .func (.func F) #[] #[pv]] w (RowTo w base g n cap (P ++ (x :: R).mergeSort le ++ Q)) := by
  have HR := hid hr; have HA := hid ha; have HC := hid hc; have HX := hid hx; have HRR := hid hR; have HS := hid hs
  have hk := hc.known
  unfold Known at hk
  have hln := row_len hr
  have hl1 : a + 1 + R.length + Q.length = n := by rw [← hln]; simp; omega
  have hab : a + 1 ≤ b := by omega
  have hbn : b ≤ n := by omega
  have HRL := hid (show R.length = b - (a + 1) by omega)
  have han : (a : Int) < n := by omega
  have ham : ((a : Int) + 1 - a == 1) = true := by simp; omega
  clear hr ha hb hc hx hR hs hln hl1
  go_enter Tryz.func79, Tryz.ntmps79
  go_wp2_with fail
  go_loopg [10, 11] (b - a) (fun gh s1 s2 wr => ∃ (i j : Nat), j ≤ i + gh ∧ (a + 1 ≤ i ∧ i ≤ j ∧ j ≤ b) ∧ s1 = .int .i64 i ∧ s2 = .int .i64 j ∧ Hid ((∀ y, a + 1 < i → R[i - 1 - (a + 1)]? = some y → le y x = true) ∧ (∀ y, R[j - (a + 1)]? = some y → le x y = true)) ∧ Hid (Row wr base g n cap (P ++ [x] ++ R ++ Q) ∧ w.grownBy wr (some g)))
  case atStart => exact ⟨a + 1, b, by omega, by omega, by go_num, rfl, ⟨fun y h => absurd h (Nat.lt_irrefl _), fun y h => by rw [List.getElem?_eq_none (by rw [HRL.out]; exact Nat.le_refl _)] at h; cases h⟩, HR.out, World.grownBy.refl _ _⟩
  case round =>
    obtain ⟨i, j, hgh, ⟨hi1, hij, hjb⟩, rfl, rfl, hq, hw⟩ := hrel
    rcases Nat.lt_or_ge i j with hlt | hge
    · have hlt' : (i : Int) < j := by omega
      obtain ⟨h, hh⟩ : ∃ h : Nat, h = (i + j) / 2 := ⟨_, rfl⟩
      have hhi : ((i : Int) + j) / 2 = (h : Int) := by omega
      have hb1 : i ≤ h ∧ h < j := by omega
      obtain ⟨gh, rfl⟩ : ∃ gh', gk = gh' + 1 := ⟨gk - 1, by omega⟩
      have HG1 := hid (show j ≤ (h + 1) + gh ∧ (a + 1 ≤ h + 1 ∧ h + 1 ≤ j ∧ j ≤ b) by omega)
      have HG2 := hid (show h ≤ i + gh ∧ (a + 1 ≤ i ∧ i ≤ h ∧ h ≤ b) by omega)
      have hrl := HRL.out
      obtain ⟨y, hy⟩ : ∃ y, R[h - (a + 1)]? = some y := ⟨R[h - (a + 1)]'(by omega), List.getElem?_eq_getElem (by omega)⟩
      have HY := hid (HRR.out y (List.mem_of_getElem? hy))
      have HY1 := hid hy
      have g1 : (P ++ [x] ++ R ++ Q)[h]? = some y := by
        have e : P ++ [x] ++ R ++ Q = (P ++ [x]) ++ (R ++ Q) := by simp
        have := get_at (P := P ++ [x]) (R := R ++ Q) (a := a + 1) (k := h - (a + 1)) (by simp [HA.out])
        rw [e, show h = a + 1 + (h - (a + 1)) by omega, this, List.getElem?_append_left (by omega)]; exact hy
      have g2 : (P ++ [x] ++ R ++ Q)[a]? = some x := by
        have e : P ++ [x] ++ R ++ Q = P ++ x :: (R ++ Q) := by simp
        rw [e, ← HA.out]; exact get_mid
      obtain ⟨hgl, c1, f1⟩ := row_cell hw.out.1 g1
      obtain ⟨_, c2, f2⟩ := row_cell hw.out.1 g2
      have hhn : (h : Int) < n := by omega
      have HCW := hid (fun (w' : World) (hb : Below wr.heap.size wr w') => (HC.out.from_ hw.out.2).from_ (grown_below hb _))
      have QL := hid (fun (hl : cf y x < 0) => (show (∀ z, a + 1 < h + 1 → R[h + 1 - 1 - (a + 1)]? = some z → le z x = true) ∧ (∀ z, R[j - (a + 1)]? = some z → le x z = true) from ⟨fun z _ hz => by
        rw [Nat.add_sub_cancel, HY1.out] at hz; cases hz; exact HC.out.less x y HY.out.2 hl, hq.out.2⟩))
      have QM := hid (fun (hl : ¬ cf y x < 0) => (show (∀ z, a + 1 < i → R[i - 1 - (a + 1)]? = some z → le z x = true) ∧ (∀ z, R[h - (a + 1)]? = some z → le x z = true) from ⟨hq.out.1, fun z hz => by
        rw [HY1.out] at hz; cases hz; exact HC.out.more x y HY.out.2 hl⟩))
      clear hh hgh hi1 hij hjb hlt hy hrl g1 g2 hb1
      by_cases hl : cf y x < 0
      · have Q1 := hid (QL.out hl)
        go_wp2_with fail
        refine wp_region_walk (by kernel_rfl) (by kernel_rfl) (by kernel_rfl) ?_
        iterate 9
          apply walkM_eq
          case h =>
            intro yq zq wq hC hd
            obtain ⟨hcq, hfq⟩ := bcell hC
            simp at hd
            refine ⟨by go_simp; done, ?_⟩
            go_simp
            first | (go_ints; exact rfl) | (go_ints; rw [if_pos (by omega)]; try exact rfl) | exact rfl | (rw [if_pos (by omega)]; try exact rfl)
        refine walkM_call (MP.eq (.int .i64 (cf y x))) ?_ ?_
        · intro yq zq wq hC hd
          obtain ⟨hcq, hfq⟩ := bcell hC
          simp at hd
          refine ⟨by go_simp; done, ?_⟩
          apply Exists.intro
          apply Exists.intro
          constructor
          · go_simp
            exact ⟨rfl, rfl⟩
          · exact gives_eq ((HCW.out wq hC).call wq (World.grownBy.refl _ _) y x HY.out.1 HX.out)
        apply walkM_eq
        case h =>
          intro yq zq wq hC hd
          obtain ⟨hcq, hfq⟩ := bcell hC
          simp at hd
          refine ⟨by go_simp; done, ?_⟩
          go_simp
          first | (go_ints; exact rfl) | (go_ints; rw [if_pos (by omega)]; try exact rfl) | exact rfl | (rw [if_pos (by omega)]; try exact rfl)
        intro yq zq wz hC hd hdis0
        have hdis := hid hdis0
        clear hdis0
        simp at hd
        have RZ := hid (hw.out.1.below hC)
        have GZ := hid ((hw.out.2).trans (grown_below hC _))
        go_simp
        clear hd hdis
        go_wp2
        go_roundg gh
        case measure => omega
        case rel => exact ⟨h + 1, j, HG1.out.1, HG1.out.2, by go_num, rfl, Q1.out, RZ.out, GZ.out⟩
      · have Q1 := hid (QM.out hl)
        go_wp2_with fail
        refine wp_region_walk (by kernel_rfl) (by kernel_rfl) (by kernel_rfl) ?_
        iterate 9
          apply walkM_eq
          case h =>
            intro yq zq wq hC hd
            obtain ⟨hcq, hfq⟩ := bcell hC
            simp at hd
            refine ⟨by go_simp; done, ?_⟩
            go_simp
            first | (go_ints; exact rfl) | (go_ints; rw [if_pos (by omega)]; try exact rfl) | exact rfl | (rw [if_pos (by omega)]; try exact rfl)
        refine walkM_call (MP.eq (.int .i64 (cf y x))) ?_ ?_
        · intro yq zq wq hC hd
          obtain ⟨hcq, hfq⟩ := bcell hC
          simp at hd
          refine ⟨by go_simp; done, ?_⟩
          apply Exists.intro
          apply Exists.intro
          constructor
          · go_simp
            exact ⟨rfl, rfl⟩
          · exact gives_eq ((HCW.out wq hC).call wq (World.grownBy.refl _ _) y x HY.out.1 HX.out)
        apply walkM_eq
        case h =>
          intro yq zq wq hC hd
          obtain ⟨hcq, hfq⟩ := bcell hC
          simp at hd
          refine ⟨by go_simp; done, ?_⟩
          go_simp
          first | (go_ints; exact rfl) | (go_ints; rw [if_pos (by omega)]; try exact rfl) | exact rfl | (rw [if_pos (by omega)]; try exact rfl)
        intro yq zq wz hC hd hdis0
        have hdis := hid hdis0
        clear hdis0
        simp at hd
        have RZ := hid (hw.out.1.below hC)
        have GZ := hid ((hw.out.2).trans (grown_below hC _))
        go_simp
        clear hd hdis
        go_wp2
        go_roundg gh
        case measure => omega
        case rel => exact ⟨i, h, HG2.out.1, HG2.out.2, rfl, rfl, Q1.out, RZ.out, GZ.out⟩
    · have hij' : i = j := by omega
      subst hij'
      have hge' : ¬ ((i : Int) < i) := by omega
      have HI := hid (show a + 1 ≤ i ∧ i ≤ b by omega)
      have E := hid (sort_insert HC.out.ord HS.out x (j := i - (a + 1)) (fun z h1 h2 => hq.out.1 z (by omega) (by rw [show i - 1 - (a + 1) = i - (a + 1) - 1 by omega]; exact h2)) hq.out.2 (by have := HRL.out; omega))
      have hib : i ≤ n := by omega
      have hia : a + 1 ≤ i := hi1
      clear hgh hi1 hij hjb hge
      go_wp2_with fail
      go_loopg [13] (i - 1 - a) (fun gh s1 wr => ∃ (k : Nat) (R1 R2 : List Int), k + gh = i - 1 ∧ a ≤ k ∧ s1 = .int .i64 k ∧ Hid ((R = R1 ++ R2 ∧ a + R1.length = k)) ∧ Hid (Row wr base g n cap (P ++ R1 ++ x :: (R2 ++ Q)) ∧ w.grownBy wr (some g)))
      case atStart => exact ⟨a, [], R, by omega, Nat.le_refl _, rfl, ⟨rfl, rfl⟩, by have := hw.out.1; simpa using this, hw.out.2⟩
      case round =>
        clear hw
        obtain ⟨k, R1, R2, hkg, hak, rfl, hp, hr2⟩ := hrel
        rcases Nat.lt_or_ge k (i - 1) with hlt | hge
        · have hlt' : (k : Int) < (i : Int) - 1 := by omega
          obtain ⟨gj, rfl⟩ : ∃ g', gk = g' + 1 := ⟨gk - 1, by omega⟩
          have HG := hid (show k + 1 + gj = i - 1 ∧ a ≤ k + 1 by omega)
          obtain ⟨y, R3, hR2⟩ : ∃ y R3, R2 = y :: R3 := by
            cases R2 with
            | nil => exfalso; have h1 := HRL.out; have h2 := HI.out; have h3 := hp.out.2; rw [hp.out.1] at h1; simp at h1; omega
            | cons x l => exact ⟨x, l, rfl⟩
          subst hR2
          have hpl : (P ++ R1).length = k := by rw [List.length_append, HA.out, hp.out.2]
          have hrow' : Row wr base g n cap ((P ++ R1) ++ x :: ([] ++ y :: (R3 ++ Q))) := by have := hr2.out.1; simpa using this
          have g1 := get_mid (P := P ++ R1) (x := x) (Q := [] ++ y :: (R3 ++ Q))
          have g2 := get_mid2 (P := P ++ R1) (M := []) (Q := R3 ++ Q) (x := x) (y := y)
          have hset := set_swap (P := P ++ R1) (M := []) (Q := R3 ++ Q) (x := x) (y := y)
          rw [hpl] at g1 g2 hset
          simp only [List.length_nil, Nat.add_zero] at g2 hset
          obtain ⟨k1, hk1⟩ : ∃ k1, k1 = k + 1 := ⟨_, rfl⟩
          rw [← hk1] at g2 hset
          obtain ⟨hgl, c1, f1⟩ := row_cell hrow' g1
          obtain ⟨_, c2, f2⟩ := row_cell hrow' g2
          have RW := hid (show Row ((wr.setCell ⟨g, k, none⟩ (.int .i64 y)).setCell ⟨g, k1, none⟩ (.int .i64 x)) base g n cap (P ++ (R1 ++ [y]) ++ x :: (R3 ++ Q)) ∧ w.grownBy ((wr.setCell ⟨g, k, none⟩ (.int .i64 y)).setCell ⟨g, k1, none⟩ (.int .i64 x)) (some g) by
            refine ⟨?_, (hr2.out.2.trans (hrow'.grown _ _)).trans ((hrow'.set _ _).grown _ _)⟩
            have h := (hrow'.set k y).set k1 x
            rw [hset] at h
            simpa using h)
          have e0 : ((k : Int) + 1).toNat = k1 := by omega
          have q1 : (k : Int) + 1 < n := by omega
          have q2 : (k : Int) < n := by omega
          have P2 := hid (show R = (R1 ++ [y]) ++ R3 ∧ a + (R1 ++ [y]).length = k + 1 from ⟨by rw [hp.out.1]; simp, by have := hp.out.2; simp; omega⟩)
          clear hkg hak hlt hset g1 g2 hrow' hpl hk1
          go_wp2_with fail
          go_big_region
          all_goals go_wp2
          go_roundg gj
          case measure => omega
          case rel => exact ⟨k + 1, R1 ++ [y], R3, HG.out.1, HG.out.2, by go_num, P2.out, RW.out.1.drew, RW.out.2.trans (grown_drew _ _)⟩
        · have hke : k = i - 1 := by omega
          have hlt' : ¬ ((k : Int) < (i : Int) - 1) := by omega
          have RW := hid (show Row wr base g n cap (P ++ (x :: R).mergeSort le ++ Q) by
            have h1 : i - (a + 1) = R1.length := by have := hp.out.2; omega
            have := hr2.out.1
            rw [E.out, h1]
            rw [show R.take R1.length = R1 by rw [hp.out.1, List.take_left], show R.drop R1.length = R2 by rw [hp.out.1, List.drop_left]]
            simpa using this)
          clear hkg hak hge hke
          go_wp2
          go_end0
          exact ⟨rfl, by simpa using RW.out, hr2.out.2⟩
end Go.Proofs.YtleegelljgnlpaaGreat.X
