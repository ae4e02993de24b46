/- Stable sorting, walked: symMergeCmpFunc, a step -/
import Derived.Test.YtleegelljgnlpaaGreatXStab5c
namespace Go.Proofs.YtleegelljgnlpaaGreat.X
open Go.RowKit Go.XB Go.XN Go.XS
attribute [local go_sem] fillBy opAt deps depOf Region.wanted yielded
attribute [local simp] deps depOf MP.eq MP.agg MP.sl Facts
set_option linter.constructorNameAsVariable false

set_option maxHeartbeats 8000000 in
set_option maxRecDepth 20000 in
theorem sort_symStep (base g n cap F : Nat) (pv : Value) (cf : Int → Int → Int) (le : Int → Int → Bool) (hn : n ≤ 1048576) (N : Nat) (ih : SymOk base g n cap F pv cf le N)
    (a m b : Nat) (P L R Q : List Int) (w : World) (hN : b ≤ a + (N + 1)) (hr : Row w base g n cap (P ++ L ++ R ++ Q)) (ha : P.length = a) (hm : a + L.length = m) (hb : m + R.length = b) (hL0 : 2 ≤ L.length) (hR0 : 2 ≤ R.length)
    (hc : Cmp w g n F pv cf le) (hin : ∀ x ∈ L ++ R, 0 ≤ x ∧ x < n) (hup : ∀ x ∈ L, ∀ y ∈ R, x < y) (hsL : Srt le L) (hsR : Srt le R) :
    Calls Tryz.prog 79 #[.slice (some ⟨g, 0, none⟩) n cap, .int .i64 a, .int .i64 m, .int .i64 b, .func (.func F) #[] #[pv]] w (RowTo w base g n cap (P ++ (L ++ R).mergeSort le ++ Q)) := by
  have HR := hid hr; have HA := hid ha; have HC := hid hc; have HIN := hid hin; have HUP := hid hup; have HSL := hid hsL; have HSR := hid hsR; have IH := hid ih
  have HK := hid hc.known
  have hln := row_len hr
  have hl1 : a + L.length + R.length + Q.length = n := by rw [← hln]; simp; omega
  have hbn : b ≤ n := by omega
  have HLN := hid (show a + L.length = m ∧ m + R.length = b from ⟨hm, hb⟩)
  have ham : ((m : Int) - a == 1) = false := by simp; omega
  have hbm : ((b : Int) - m == 1) = false := by simp; omega
  obtain ⟨mid, hmid⟩ : ∃ mid : Nat, mid = (a + b) / 2 := ⟨_, rfl⟩
  have hmi : ((a : Int) + b) / 2 = mid := by omega
  have hab : a + 2 ≤ m ∧ m + 2 ≤ b := by omega
  have hmb : a < mid ∧ mid < b ∧ b ≤ mid + mid - a + 1 ∧ mid + mid - a ≤ b := by omega
  have HN := hid (show mid ≤ a + N ∧ b ≤ mid + N by omega)
  have hn1 := hn
  have ham2 : (a : Int) + 2 ≤ m := by omega
  have hmb2 : (m : Int) + 2 ≤ b := by omega
  have hbn2 : (b : Int) ≤ n := by omega
  clear hr ha hc hin hup hsL hsR hln hl1 hm hb hL0 hR0 ih hN hmid
  go_enter Tryz.func79, Tryz.ntmps79
  go_upto_if 140 with fail
  go_cut [20, 21] (fun s20 s21 wx => (∃ lo hi : Nat, s20 = .int .i64 lo ∧ s21 = .int .i64 hi ∧ Hid ((a ≤ lo ∧ lo ≤ hi ∧ hi ≤ m ∧ hi ≤ mid ∧ mid + m ≤ b + lo) ∧ (mid + m = b + lo ∨ lo = a) ∧ (hi = mid ∨ hi = m))) ∧ wx = w)
  case first =>
    rcases Nat.lt_or_ge mid m with h | h
    · have h' : (mid : Int) < m := by omega
      go_wp2_with fail
      go_meet
      exact ⟨⟨mid + m - b, mid, by congr 1; omega, rfl, by show _ ∧ _ ∧ _; omega⟩, rfl⟩
    · have h' : ¬ ((mid : Int) < m) := by omega
      go_wp2_with fail
      go_meet
      exact ⟨⟨a, m, rfl, rfl, by show _ ∧ _ ∧ _; omega⟩, rfl⟩
  case rest =>
    obtain ⟨⟨lo, hi, rfl, rfl, hlh⟩, hwc⟩ := hcut
    obtain rfl : w = wc := hwc.symm
    obtain ⟨p, hp⟩ : ∃ p : Nat, p + 1 = mid + m := ⟨mid + m - 1, by omega⟩
    have hpi : (mid : Int) + m - 1 = p := by omega
    go_upto_block 8 with fail
    go_cut [20, 21] (fun s20 s21 wx => ∃ s : Nat, s20 = .int .i64 s ∧ s21 = .int .i64 s ∧ Hid (Row wx base g n cap (P ++ L ++ R ++ Q) ∧ w.grownBy wx (some g)) ∧ Hid ((lo ≤ s ∧ s ≤ hi) ∧ ((s = lo ∨ ∀ x y, L[s - 1 - a]? = some x → R[p - (s - 1) - m]? = some y → le x y = true) ∧ (s = hi ∨ ∀ x y, L[s - a]? = some x → R[p - s - m]? = some y → le y x = true))))
    case first =>
      go_wp2_with fail
      go_loopg [20, 21] (hi - lo) (fun gh s1 s2 wr => ∃ (s r : Nat), r ≤ s + gh ∧ (lo ≤ s ∧ s ≤ r ∧ r ≤ hi) ∧ s1 = .int .i64 s ∧ s2 = .int .i64 r ∧ Hid ((s = lo ∨ ∀ x y, L[s - 1 - a]? = some x → R[p - (s - 1) - m]? = some y → le x y = true) ∧ (r = hi ∨ ∀ x y, L[r - a]? = some x → R[p - r - m]? = some y → le y x = true)) ∧ Hid (Row wr base g n cap (P ++ L ++ R ++ Q) ∧ w.grownBy wr (some g)))
      case atStart => exact ⟨lo, hi, by omega, by have := hlh.out; omega, rfl, rfl, ⟨.inl rfl, .inl rfl⟩, HR.out, World.grownBy.refl _ _⟩
      case round =>
        obtain ⟨s, r, hgk, ⟨hs1, hs2, hs3⟩, rfl, rfl, hq, hw⟩ := hrel
        have hL := hlh.out
        rcases Nat.lt_or_ge s r with hlt | hge
        · have hlt' : (s : Int) < r := by omega
          obtain ⟨c, hcd⟩ : ∃ c : Nat, c = (s + r) / 2 := ⟨_, rfl⟩
          have hci : ((s : Int) + r) / 2 = (c : Int) := by omega
          have hcb : s ≤ c ∧ c < r := by omega
          obtain ⟨q, hqd⟩ : ∃ q : Nat, q = p - c := ⟨_, rfl⟩
          have hqi : (p : Int) - c = q := by omega
          obtain ⟨gh, rfl⟩ : ∃ gh', gk = gh' + 1 := ⟨gk - 1, by omega⟩
          have HG1 := hid (show r ≤ (c + 1) + gh ∧ (lo ≤ c + 1 ∧ c + 1 ≤ r ∧ r ≤ hi) by omega)
          have HG2 := hid (show c ≤ s + gh ∧ (lo ≤ s ∧ s ≤ c ∧ c ≤ hi) by omega)
          have hll := HLN.out
          obtain ⟨x, hx⟩ : ∃ x, L[c - a]? = some x := ⟨L[c - a]'(by omega), List.getElem?_eq_getElem (by omega)⟩
          obtain ⟨y, hy⟩ : ∃ y, R[q - m]? = some y := ⟨R[q - m]'(by omega), List.getElem?_eq_getElem (by omega)⟩
          have hxm := List.mem_of_getElem? hx
          have hym := List.mem_of_getElem? hy
          have HX := hid (HIN.out x (List.mem_append_left _ hxm)); have HY := hid (HIN.out y (List.mem_append_right _ hym)); have HXY := hid (HUP.out x hxm y hym)
          have HX1 := hid hx; have HY1 := hid hy
          have g1 : (P ++ L ++ R ++ Q)[c]? = some x := by
            have e : P ++ L ++ R ++ Q = P ++ (L ++ (R ++ Q)) := by simp
            have := get_at (P := P) (R := L ++ (R ++ Q)) (a := a) (k := c - a) HA.out
            rw [e, show c = a + (c - a) by omega, this, List.getElem?_append_left (by omega)]; exact hx
          have g2 : (P ++ L ++ R ++ Q)[q]? = some y := by
            have e : P ++ L ++ R ++ Q = (P ++ L) ++ (R ++ Q) := by simp
            have := get_at (P := P ++ L) (R := R ++ Q) (a := m) (k := q - m) (by rw [List.length_append, HA.out]; exact hll.1)
            rw [e, show q = m + (q - m) by omega, this, List.getElem?_append_left (by omega)]; exact hy
          obtain ⟨hgl, c1, f1⟩ := row_cell hw.out.1 g1
          obtain ⟨_, c2, f2⟩ := row_cell hw.out.1 g2
          have hcn : (c : Int) < n := by omega
          have hqn : (q : Int) < n := by omega
          have HCW := hid (fun (w' : World) (hb : Below wr.heap.size wr w') => (HC.out.from_ hw.out.2).from_ (grown_below hb _))
          have QL := hid (fun (hl : ¬ cf y x < 0) => (show (c + 1 = lo ∨ ∀ u v, L[c + 1 - 1 - a]? = some u → R[p - (c + 1 - 1) - m]? = some v → le u v = true) ∧ (r = hi ∨ ∀ u v, L[r - a]? = some u → R[p - r - m]? = some v → le v u = true) from ⟨.inr fun u v hu hv => by
            rw [Nat.add_sub_cancel] at hu hv
            rw [HX1.out] at hu; rw [← hqd, HY1.out] at hv; cases hu; cases hv; exact HC.out.more x y HXY.out hl, hq.out.2⟩))
          have QM := hid (fun (hl : cf y x < 0) => (show (s = lo ∨ ∀ u v, L[s - 1 - a]? = some u → R[p - (s - 1) - m]? = some v → le u v = true) ∧ (c = hi ∨ ∀ u v, L[c - a]? = some u → R[p - c - m]? = some v → le v u = true) from ⟨hq.out.1, .inr fun u v hu hv => by
            rw [HX1.out] at hu; rw [← hqd, HY1.out] at hv; cases hu; cases hv; exact HC.out.less x y HXY.out hl⟩))
          have hkk := HK.out
          unfold Known at hkk
          clear hcd hgk hs1 hs2 hs3 hlt hx hy hxm hym hll g1 g2 hcb hL hqd hp
          by_cases hl : cf y x < 0
          · have Q1 := hid (QM.out hl)
            have hnb : (!decide (cf y x < 0)) = false := by simp [hl]
            go_wp2_with fail
            refine wp_region_walk (by kernel_rfl) (by kernel_rfl) (by kernel_rfl) ?_
            iterate 11
              apply walkM_eq
              case h =>
                intro yq zq wq hC hd
                obtain ⟨hcq, hfq⟩ := bcell hC
                simp at hd
                refine ⟨by go_simp; done, ?_⟩
                go_simp
                first | (go_ints; exact rfl) | (go_ints; rw [if_pos (by omega)]; try exact rfl) | exact rfl | (rw [if_pos (by omega)]; try exact rfl)
            refine walkM_call (MP.eq (.int .i64 (cf y x))) ?_ ?_
            · intro yq zq wq hC hd
              obtain ⟨hcq, hfq⟩ := bcell hC
              simp at hd
              refine ⟨by go_simp; done, ?_⟩
              apply Exists.intro
              apply Exists.intro
              constructor
              · go_simp
                exact ⟨rfl, rfl⟩
              · exact gives_eq ((HCW.out wq hC).call wq (World.grownBy.refl _ _) y x HY.out HX.out)
            iterate 2
              apply walkM_eq
              case h =>
                intro yq zq wq hC hd
                obtain ⟨hcq, hfq⟩ := bcell hC
                simp at hd
                refine ⟨by go_simp; done, ?_⟩
                go_simp
                first | (go_ints; exact rfl) | (go_ints; rw [if_pos (by omega)]; try exact rfl) | exact rfl | (rw [if_pos (by omega)]; try exact rfl)
            intro yq zq wz hC hd hdis0
            have hdis := hid hdis0
            clear hdis0
            simp at hd
            have RZ := hid (hw.out.1.below hC)
            have GZ := hid ((hw.out.2).trans (grown_below hC _))
            go_simp
            clear hd hdis
            go_wp2
            go_roundg gh
            case measure => omega
            case rel => exact ⟨s, c, HG2.out.1, HG2.out.2, rfl, rfl, Q1.out, RZ.out, GZ.out⟩
          · have Q1 := hid (QL.out hl)
            have hnb : (!decide (cf y x < 0)) = true := by rw [decide_eq_false hl]; rfl
            go_wp2_with fail
            refine wp_region_walk (by kernel_rfl) (by kernel_rfl) (by kernel_rfl) ?_
            iterate 11
              apply walkM_eq
              case h =>
                intro yq zq wq hC hd
                obtain ⟨hcq, hfq⟩ := bcell hC
                simp at hd
                refine ⟨by go_simp; done, ?_⟩
                go_simp
                first | (go_ints; exact rfl) | (go_ints; rw [if_pos (by omega)]; try exact rfl) | exact rfl | (rw [if_pos (by omega)]; try exact rfl)
            refine walkM_call (MP.eq (.int .i64 (cf y x))) ?_ ?_
            · intro yq zq wq hC hd
              obtain ⟨hcq, hfq⟩ := bcell hC
              simp at hd
              refine ⟨by go_simp; done, ?_⟩
              apply Exists.intro
              apply Exists.intro
              constructor
              · go_simp
                exact ⟨rfl, rfl⟩
              · exact gives_eq ((HCW.out wq hC).call wq (World.grownBy.refl _ _) y x HY.out HX.out)
            iterate 2
              apply walkM_eq
              case h =>
                intro yq zq wq hC hd
                obtain ⟨hcq, hfq⟩ := bcell hC
                simp at hd
                refine ⟨by go_simp; done, ?_⟩
                go_simp
                first | (go_ints; exact rfl) | (go_ints; rw [if_pos (by omega)]; try exact rfl) | exact rfl | (rw [if_pos (by omega)]; try exact rfl)
            intro yq zq wz hC hd hdis0
            have hdis := hid hdis0
            clear hdis0
            simp at hd
            have RZ := hid (hw.out.1.below hC)
            have GZ := hid ((hw.out.2).trans (grown_below hC _))
            go_simp
            clear hd hdis
            go_wp2
            go_roundg gh
            case measure => omega
            case rel => exact ⟨c + 1, r, HG1.out.1, HG1.out.2, by go_num, rfl, Q1.out, RZ.out, GZ.out⟩
        · have hsr : s = r := by omega
          subst hsr
          have hge' : ¬ ((s : Int) < s) := by omega
          have QQ := hid (show (lo ≤ s ∧ s ≤ hi) ∧ ((s = lo ∨ ∀ x y, L[s - 1 - a]? = some x → R[p - (s - 1) - m]? = some y → le x y = true) ∧ (s = hi ∨ ∀ x y, L[s - a]? = some x → R[p - s - m]? = some y → le y x = true)) from ⟨by omega, hq.out⟩)
          have WW := hid hw.out
          clear hgk hs1 hs2 hs3 hge hL hp hq hw
          go_wp2_with fail
          go_meet
          exact ⟨s, rfl, rfl, WW.out, QQ.out⟩
    case rest =>
    obtain ⟨s, rfl, rfl, hw, hq⟩ := hcut
    have hL := hlh.out
    have hs0 := hq.out.1
    generalize wc = wr at *
    obtain ⟨en, hend⟩ : ∃ en : Nat, en + s = mid + m := ⟨mid + m - s, by omega⟩
    have heni : (mid : Int) + m - s = en := by omega
    have hsb : a ≤ s ∧ s ≤ m ∧ s ≤ mid ∧ m ≤ en ∧ mid ≤ en ∧ en ≤ b := by omega
    have hll := HLN.out
    obtain ⟨L1, L2, hLe, hl1, hl2⟩ := split_at (l := L) (k := s - a) (by omega)
    obtain ⟨R1, R2, hRe, hr1, hr2⟩ := split_at (l := R) (k := en - m) (by omega)
    have E := hid (show (L ++ R).mergeSort le = (L1 ++ R1).mergeSort le ++ (L2 ++ R2).mergeSort le by
      have := sym_split HC.out.ord HSL.out HSR.out (i := s - a) (j := en - m) (fun x y hx hj hy => ?_) (fun x y hi' hx hy => ?_) (by omega) (by omega)
      · rw [this]
        rw [show L.take (s - a) = L1 by rw [hLe, ← hl1, List.take_left], show L.drop (s - a) = L2 by rw [hLe, ← hl1, List.drop_left], show R.take (en - m) = R1 by rw [hRe, ← hr1, List.take_left], show R.drop (en - m) = R2 by rw [hRe, ← hr1, List.drop_left]]
      · rcases hq.out.2.2 with h | h
        · exfalso
          rcases hL.2.2 with h2 | h2
          · omega
          · rw [List.getElem?_eq_none (by omega)] at hx; cases hx
        · exact h x y hx (by rw [show p - s - m = en - m - 1 by omega]; exact hy)
      · rcases hq.out.2.1 with h | h
        · exfalso
          rcases hL.2.1 with h2 | h2
          · rw [List.getElem?_eq_none (by omega)] at hy; cases hy
          · omega
        · exact h x y (by rw [show s - 1 - a = s - a - 1 by omega]; exact hx) (by rw [show p - (s - 1) - m = en - m by omega]; exact hy))
    have HS1 := hid (show Srt le L1 ∧ Srt le L2 from by have := HSL.out; rw [hLe] at this; exact ⟨(List.pairwise_append.1 this).1, (List.pairwise_append.1 this).2.1⟩)
    have HS2 := hid (show Srt le R1 ∧ Srt le R2 from by have := HSR.out; rw [hRe] at this; exact ⟨(List.pairwise_append.1 this).1, (List.pairwise_append.1 this).2.1⟩)
    have HI1 := hid (show (∀ x ∈ L1 ++ R1, 0 ≤ x ∧ x < n) ∧ ∀ x ∈ L2 ++ R2, 0 ≤ x ∧ x < n from ⟨fun x hx => HIN.out x (by rw [hLe, hRe]; simp at hx ⊢; rcases hx with h | h <;> simp [h]), fun x hx => HIN.out x (by rw [hLe, hRe]; simp at hx ⊢; rcases hx with h | h <;> simp [h])⟩)
    have HU1 := hid (show (∀ x ∈ L1, ∀ y ∈ R1, x < y) ∧ ∀ x ∈ L2, ∀ y ∈ R2, x < y from ⟨fun x hx y hy => HUP.out x (by rw [hLe]; simp [hx]) y (by rw [hRe]; simp [hy]), fun x hx y hy => HUP.out x (by rw [hLe]; simp [hx]) y (by rw [hRe]; simp [hy])⟩)
    have RW0 := hid (show Row wr base g n cap (P ++ L1 ++ L2 ++ R1 ++ (R2 ++ Q)) by have := hw.out.1; rw [hLe, hRe] at this; simpa using this)
    have GW0 := hid hw.out.2
    have NUM := hid (show (L1.length = s - a ∧ L2.length = m - s ∧ R1.length = en - m ∧ R2.length = b - en) ∧ (en + s = mid + m ∧ a ≤ s ∧ s ≤ m ∧ s ≤ mid ∧ m ≤ en ∧ mid ≤ en ∧ en ≤ b ∧ a + 2 ≤ m ∧ m + 2 ≤ b ∧ b ≤ n) by omega)
    have hsa : (a : Int) ≤ s := by omega
    have hen2 : (en : Int) ≤ b := by omega
    rename (∀ (a : Act) (w : World), Code.wp _ _ _ a w → _) => hK
    refine hK _ _ ?_
    exact sort_symTail38 base g n cap F pv cf le hn1 N a m b mid s en P L R Q L1 L2 R1 R2 w _ IH HA HC HN E HS1 HS2 HI1 HU1 RW0 GW0 NUM heni hsa hen2 _ _ _ _ _ _ _ _ _ _ _ _ _ _ _ _ _ _ _ _ _ _ _ _ _ _ _ _ _ _ _ _ _ _ _ _ _ _ _ _ _ _ _ _ _ _ _ _ _ _ _ _ _ _ _ _ _ _ _ _ _ _ _ _ _ _ _ _ _ _ _ _ _ _ _ _ _ _ _ _ _ _ _ _ _ _ _ _ _ _ _ _ _ _ _ _ _ _ _ _ _ _ _ _ _ _ _ _ _ _ _ _ _ _ _ _ _ _ _ _ _ _ _ _ _ _ _ _ _ _ _ _ _ _ _ _ _ _ _ _ _ _ _ _ _ _ _ _ _ _ _ _ _ _ _ _ _ _ _ _ _ _ _ _ _ _ _ _ _ _ _ _ _ _ _ _ _ _ _ _ _ _ _ _ _ _ _ _ _ _ _ _ _ _ _ _ _ _ _ _ _ _ _ _ _ _ _ _ _ _ _ _
end Go.Proofs.YtleegelljgnlpaaGreat.X
