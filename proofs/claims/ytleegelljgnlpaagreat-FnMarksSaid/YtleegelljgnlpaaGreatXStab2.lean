/- Stable sorting, walked: insertionSortCmpFunc. -/
import Derived.Test.YtleegelljgnlpaaGreatXStab1
namespace Go.Proofs.YtleegelljgnlpaaGreat.X
open Go.RowKit Go.XB Go.XN Go.XS
attribute [local go_sem] fillBy opAt deps depOf Region.wanted yielded
attribute [local simp] deps depOf MP.eq MP.agg MP.sl Facts
set_option linter.constructorNameAsVariable false

theorem Row.below {w w' : World} {base g n cap : Nat} {us : List Int} (h : Row w base g n cap us) (hb : Below w.heap.size w w') : Row w' base g n cap us := ownsRow_below h hb
theorem grown_below {w w' : World} (hb : Below w.heap.size w w') (r : Option Nat) : w.grownBy w' r := ⟨hb.os, hb.tape, hb.output, hb.size, fun k hk _ => hb.block k hk⟩

/-- what is asked of the comparison: at indices of the row it gives cf; a later index against an earlier one it tells the order -/
structure Cmp (w0 : World) (g n F : Nat) (pv : Value) (cf : Int → Int → Int) (le : Int → Int → Bool) : Prop where
  known : Known F
  call : ∀ w', w0.grownBy w' (some g) → ∀ x y : Int, (0 ≤ x ∧ x < n) → (0 ≤ y ∧ y < n) → Calls Tryz.prog F #[.int .i64 x, .int .i64 y, pv] w' (Gives w' (.int .i64 (cf x y)))
  less : ∀ x y, x < y → cf y x < 0 → le y x = true
  more : ∀ x y, x < y → ¬ (cf y x < 0) → le x y = true
  ord : LinOrd le

theorem Cmp.from_ {w0 w1 : World} {g n F : Nat} {pv : Value} {cf : Int → Int → Int} {le : Int → Int → Bool} (h : Cmp w0 g n F pv cf le) (hg : w0.grownBy w1 (some g)) : Cmp w1 g n F pv cf le :=
  ⟨h.known, fun w' hw => h.call w' (hg.trans hw), h.less, h.more, h.ord⟩

theorem insert_out {le : Int → Int → Bool} (h : LinOrd le) {T S1 S2 : List Int} {x : Int} (e : T.mergeSort le = S1 ++ S2) (h1 : ∀ y, 0 < S1.length → S1[S1.length - 1]? = some y → le y x = true) (h2 : ∀ y, S2[0]? = some y → le x y = true) :
    (T ++ [x]).mergeSort le = S1 ++ x :: S2 := by
  rw [sort_snoc h x, ← sort_perm_eq h (l := x :: T) (m := x :: T.mergeSort le) ((List.mergeSort_perm T le).cons x), e]
  have hs : Srt le (S1 ++ S2) := by rw [← e]; exact sort_srt h T
  have := sort_insert h hs x (j := S1.length) (fun y h3 h4 => h1 y h3 (by rwa [List.getElem?_append_left (by omega)] at h4)) (fun y h4 => h2 y (by rwa [List.getElem?_append_right (Nat.le_refl _), Nat.sub_self] at h4)) (by simp)
  rw [this, List.take_left, List.drop_left]

set_option maxHeartbeats 4000000 in
set_option maxRecDepth 10000 in
theorem sort_insertion (base g n cap a b F : Nat) (pv : Value) (cf : Int → Int → Int) (le : Int → Int → Bool) (P B Q : List Int) (w : World) (hr : Row w base g n cap (P ++ B ++ Q)) (ha : P.length = a) (hb : P.length + B.length = b) (hn : n ≤ 1048576)
    (hc : Cmp w g n F pv cf le) (hB : ∀ x ∈ B, 0 ≤ x ∧ x < n) (hup : B.Pairwise (· < ·)) :
    Calls Tryz.prog 78 #[.slice (some ⟨g, 0, none⟩) n cap, .int .i64 a, .int .i64 b, .func (.func F) #[] #[pv]] w (RowTo w base g n cap (P ++ B.mergeSort le ++ Q)) := by
  have HR := hid hr; have HA := hid ha; have HC := hid hc; have HB := hid hB; have HUP := hid hup
  have hk := hc.known
  unfold Known at hk
  have hln := row_len hr
  have hl1 : P.length + B.length + Q.length = n := by rw [← hln]; simp; omega
  have hab : a ≤ b := by omega
  have hbn : b ≤ n := by omega
  have HBL := hid (show B.length = b - a by omega)
  clear hr ha hb hc hB hup hln hl1
  go_enter Tryz.func78, Tryz.ntmps78
  go_wp2_with fail
  go_loopg [8] (b - a) (fun gh s wr => ∃ (i : Nat) (T R : List Int), b ≤ i + gh ∧ i ≤ b + 1 ∧ s = .int .i64 i ∧ Hid (B = T ++ R ∧ (a + T.length = i ∨ (B = [] ∧ i = a + 1))) ∧ Hid (Row wr base g n cap (P ++ T.mergeSort le ++ R ++ Q) ∧ w.grownBy wr (some g)))
  case atStart =>
    rcases hcase : B with _ | ⟨x, l⟩
    · refine ⟨a + 1, [], [], by omega, by omega, by go_num, ⟨rfl, .inr ⟨rfl, rfl⟩⟩, ?_, World.grownBy.refl _ _⟩
      have := HR.out; rw [hcase] at this; simpa using this
    · refine ⟨a + 1, [x], l, by omega, by have := HBL.out; rw [hcase] at this; simp at this; omega, by go_num, ⟨rfl, .inl (by simp)⟩, ?_, World.grownBy.refl _ _⟩
      have := HR.out; rw [hcase] at this; simpa using this
  case round =>
    obtain ⟨i, T, R, hgk, hib, rfl, hp, hw⟩ := hrel
    rcases Nat.lt_or_ge i b with hlt | hge
    · have hlt' : (i : Int) < b := by omega
      have hin : i < n := by omega
      have hTl : a + T.length = i := by
        rcases hp.out.2 with h | ⟨h, _⟩
        · exact h
        · exfalso; have := HBL.out; rw [h] at this; simp at this; omega
      obtain ⟨x, R', hR⟩ : ∃ x R', R = x :: R' := by
        cases R with
        | nil => exfalso; have h1 := HBL.out; rw [hp.out.1] at h1; simp at h1; omega
        | cons x l => exact ⟨x, l, rfl⟩
      subst hR
      have hx := HB.out x (by rw [hp.out.1]; simp)
      have hT : ∀ y ∈ T, (0 ≤ y ∧ y < n) ∧ y < x := fun y hy => ⟨HB.out y (by rw [hp.out.1]; simp [hy]), by
        have := HUP.out; rw [hp.out.1] at this; exact (List.pairwise_append.1 this).2.2 y hy x (by simp)⟩
      obtain ⟨gh, rfl⟩ : ∃ gh', gk = gh' + 1 := ⟨gk - 1, by omega⟩
      have HG := hid (show b ≤ i + 1 + gh by omega)
      have HT := hid hT; have HX := hid hx; have HTL := hid hTl
      have hai : a ≤ i := by omega
      clear hgk hT hx hTl
      go_wp2_with fail
      go_loopg [9] i (fun g2 s2 wr2 => ∃ (j : Nat) (S1 S2 : List Int), j ≤ g2 ∧ a ≤ j ∧ j ≤ i ∧ s2 = .int .i64 j ∧ Hid (T.mergeSort le = S1 ++ S2 ∧ a + S1.length = j ∧ (∀ y, S2[0]? = some y → le x y = true)) ∧ Hid (Row wr2 base g n cap (P ++ S1 ++ x :: (S2 ++ (R' ++ Q))) ∧ w.grownBy wr2 (some g)))
      case atStart =>
        refine ⟨i, T.mergeSort le, [], Nat.le_refl _, hai, Nat.le_refl _, rfl, ⟨by simp, by rw [List.length_mergeSort]; exact HTL.out, fun y h => by simp at h⟩, ?_, hw.out.2⟩
        have := hw.out.1; simpa using this
      case round =>
        clear hw
        obtain ⟨j, S1, S2, hj2, haj, hji, rfl, hq, hr2⟩ := hrel
        rcases Nat.lt_or_ge a j with haj' | haj'
        · obtain ⟨S0, y, hS1⟩ : ∃ S0 y, S1 = S0 ++ [y] := by
            rcases List.eq_nil_or_concat S1 with h | ⟨l, z, h⟩
            · exfalso; have := hq.out.2.1; rw [h] at this; simp at this; omega
            · exact ⟨l, z, by rw [h, List.concat_eq_append]⟩
          subst hS1
          obtain ⟨jp, rfl⟩ : ∃ jp, j = jp + 1 := ⟨j - 1, by omega⟩
          obtain ⟨gj, rfl⟩ : ∃ g', gk = g' + 1 := ⟨gk - 1, by omega⟩
          have hyT : y ∈ T := (List.mem_mergeSort (le := le)).1 (by rw [hq.out.1]; simp)
          have HY := hid (HT.out y hyT)
          have hpl : (P ++ S0).length = jp := by have h1 := hq.out.2.1; have h2 := HA.out; simp at h1 ⊢; omega
          have hrow' : Row wr base g n cap ((P ++ S0) ++ y :: ([] ++ x :: (S2 ++ (R' ++ Q)))) := by have := hr2.out.1; simpa using this
          have g1 := get_mid (P := P ++ S0) (x := y) (Q := [] ++ x :: (S2 ++ (R' ++ Q)))
          have g2 := get_mid2 (P := P ++ S0) (M := []) (Q := S2 ++ (R' ++ Q)) (x := y) (y := x)
          have hset := set_swap (P := P ++ S0) (M := []) (Q := S2 ++ (R' ++ Q)) (x := y) (y := x)
          rw [hpl] at g1 g2 hset
          simp only [List.length_nil, Nat.add_zero] at g2 hset
          have hrow := hid hrow'
          obtain ⟨hgl, c1, f1⟩ := row_cell hrow' g1
          obtain ⟨_, c2, f2⟩ := row_cell hrow' g2
          have HS := hid hset; have G1 := hid g1; have G2 := hid g2
          have HCW := hid (fun (w' : World) (hb : Below wr.heap.size wr w') => (HC.out.from_ hr2.out.2).from_ (grown_below hb _))
          have q1 : (jp : Int) + 1 < n := by omega
          have q2 : (jp : Int) < n := by omega
          have q3 : (a : Int) < (jp : Int) + 1 := by omega
          have q4 : ((jp + 1 : Nat) : Int) - 1 = (jp : Int) := by omega
          have HJ := hid (show jp ≤ gj ∧ a ≤ jp ∧ jp ≤ i by omega)
          clear hset g1 g2 hrow' hj2 haj hji
          by_cases hl : cf x y < 0
          · have LE := hid (HC.out.less y x HY.out.2 hl)
            go_wp2_with fail
            refine wp_region_walk (by kernel_rfl) (by kernel_rfl) (by kernel_rfl) ?_
            iterate 14
              apply walkM_eq
              case h =>
                intro yq zq wq hC hd
                obtain ⟨hcq, hfq⟩ := bcell hC
                simp at hd
                refine ⟨by go_simp; done, ?_⟩
                go_simp
                first | (go_ints; exact rfl) | (go_ints; rw [if_pos (by omega)]; try exact rfl) | exact rfl | (rw [if_pos (by omega)]; try exact rfl)
            refine walkM_call (MP.eq (.int .i64 (cf x y))) ?_ ?_
            · intro yq zq wq hC hd
              obtain ⟨hcq, hfq⟩ := bcell hC
              simp at hd
              refine ⟨by go_simp; done, ?_⟩
              apply Exists.intro
              apply Exists.intro
              constructor
              · go_simp
                exact ⟨rfl, rfl⟩
              · exact gives_eq ((HCW.out wq hC).call wq (World.grownBy.refl _ _) x y HX.out HY.out.1)
            iterate 2
              apply walkM_eq
              case h =>
                intro yq zq wq hC hd
                obtain ⟨hcq, hfq⟩ := bcell hC
                simp at hd
                refine ⟨by go_simp; done, ?_⟩
                go_simp
                first | (go_ints; exact rfl) | (go_ints; rw [if_pos (by omega)]; try exact rfl) | exact rfl | (rw [if_pos (by omega)]; try exact rfl)
            intro yq zq wz hC hd hdis0
            have hdis := hid hdis0
            clear hdis0
            simp at hd
            have RZ := hid (hrow.out.below hC)
            have GZ := hid ((hr2.out.2).trans (grown_below hC _))
            go_simp
            clear hd hdis
            obtain ⟨_, d1, e1⟩ := row_cell RZ.out G1.out
            obtain ⟨hgz, d2, e2⟩ := row_cell RZ.out G2.out
            clear c1 f1 c2 f2 hC hgl
            go_wp2_with fail
            obtain ⟨j1, hj1⟩ : ∃ j1, j1 = jp + 1 := ⟨_, rfl⟩
            rw [← hj1] at d2 e2
            have e0 : ((jp : Int) + 1).toNat = j1 := by omega
            have J1 := hid hj1
            have R := hid (show Row ((wz.setCell ⟨g, j1, none⟩ (.int .i64 y)).setCell ⟨g, jp, none⟩ (.int .i64 x)) base g n cap (P ++ S0 ++ x :: (y :: S2 ++ (R' ++ Q))) ∧ w.grownBy ((wz.setCell ⟨g, j1, none⟩ (.int .i64 y)).setCell ⟨g, jp, none⟩ (.int .i64 x)) (some g) by
              refine ⟨?_, (GZ.out.trans (RZ.out.grown _ _)).trans ((RZ.out.set _ _).grown _ _)⟩
              have h := (RZ.out.set j1 y).set jp x
              rw [List.set_comm _ _ (by omega), hj1, HS.out] at h
              rw [hj1]
              simpa using h)
            clear hj1
            go_big_region
            all_goals go_wp2
            go_roundg gj
            case measure => omega
            case rel =>
              refine ⟨jp, S0, y :: S2, HJ.out.1, HJ.out.2.1, HJ.out.2.2, by go_num, ⟨by rw [hq.out.1]; simp, ?_, fun z hz => by simp at hz; subst hz; exact LE.out⟩, R.out.1.drew, R.out.2.trans (grown_drew _ _)⟩
              have h1 := hq.out.2.1; simp at h1; omega
          · have LE := hid (HC.out.more y x HY.out.2 hl)
            go_wp2_with fail
            refine wp_region_walk (by kernel_rfl) (by kernel_rfl) (by kernel_rfl) ?_
            iterate 14
              apply walkM_eq
              case h =>
                intro yq zq wq hC hd
                obtain ⟨hcq, hfq⟩ := bcell hC
                simp at hd
                refine ⟨by go_simp; done, ?_⟩
                go_simp
                first | (go_ints; exact rfl) | (go_ints; rw [if_pos (by omega)]; try exact rfl) | exact rfl | (rw [if_pos (by omega)]; try exact rfl)
            refine walkM_call (MP.eq (.int .i64 (cf x y))) ?_ ?_
            · intro yq zq wq hC hd
              obtain ⟨hcq, hfq⟩ := bcell hC
              simp at hd
              refine ⟨by go_simp; done, ?_⟩
              apply Exists.intro
              apply Exists.intro
              constructor
              · go_simp
                exact ⟨rfl, rfl⟩
              · exact gives_eq ((HCW.out wq hC).call wq (World.grownBy.refl _ _) x y HX.out HY.out.1)
            iterate 2
              apply walkM_eq
              case h =>
                intro yq zq wq hC hd
                obtain ⟨hcq, hfq⟩ := bcell hC
                simp at hd
                refine ⟨by go_simp; done, ?_⟩
                go_simp
                first | (go_ints; exact rfl) | (go_ints; rw [if_pos (by omega)]; try exact rfl) | exact rfl | (rw [if_pos (by omega)]; try exact rfl)
            intro yq zq wz hC hd hdis0
            have hdis := hid hdis0
            clear hdis0
            simp at hd
            have RZ := hid (hrow.out.below hC)
            have GZ := hid ((hr2.out.2).trans (grown_below hC _))
            go_simp
            clear hd hdis
            go_wp2
            go_roundg gh
            case measure => omega
            case rel =>
              refine ⟨i + 1, T ++ [x], R', HG.out, by omega, by go_num, ⟨by rw [hp.out.1]; simp, .inl (by have := HTL.out; simp; omega)⟩, ?_, GZ.out⟩
              rw [insert_out HC.out.ord hq.out.1 (fun z _ hz => by simp at hz; subst hz; exact LE.out) hq.out.2.2]
              have := RZ.out; simpa using this
        · have hje : j = a := by omega
          subst hje
          have hS1 : S1 = [] := List.eq_nil_of_length_eq_zero (by have := hq.out.2.1; omega)
          subst hS1
          have q3 : ¬ ((j : Int) < (j : Int)) := by omega
          clear haj' hj2 haj
          go_wp2_with fail
          refine wp_region_walk (by kernel_rfl) (by kernel_rfl) (by kernel_rfl) ?_
          iterate 4
            apply walkM_eq
            case h =>
              intro yq zq wq hC hd
              obtain ⟨hcq, hfq⟩ := bcell hC
              simp at hd
              refine ⟨by go_simp; done, ?_⟩
              go_simp
              first | (go_ints; exact rfl) | (go_ints; rw [if_pos (by omega)]; try exact rfl) | exact rfl | (rw [if_pos (by omega)]; try exact rfl)
          iterate 12
            apply walkM_skip
            case h =>
              intro yq zq wq hC hd
              simp at hd
              go_simp
              done
          apply walkM_eq
          case h =>
            intro yq zq wq hC hd
            obtain ⟨hcq, hfq⟩ := bcell hC
            simp at hd
            refine ⟨by go_simp; done, ?_⟩
            go_simp
            first | (go_ints; exact rfl) | (go_ints; rw [if_pos (by omega)]; try exact rfl) | exact rfl | (rw [if_pos (by omega)]; try exact rfl)
          intro yq zq wz hC hd hdis0
          have hdis := hid hdis0
          clear hdis0
          simp at hd
          have RZ := hid (hr2.out.1.below hC)
          have GZ := hid ((hr2.out.2).trans (grown_below hC _))
          go_simp
          clear hd hdis
          go_wp2
          go_roundg gh
          case measure => omega
          case rel =>
            refine ⟨i + 1, T ++ [x], R', HG.out, by omega, by go_num, ⟨by rw [hp.out.1]; simp, .inl (by have := HTL.out; simp; omega)⟩, ?_, GZ.out⟩
            rw [insert_out HC.out.ord hq.out.1 (fun z h _ => by simp at h) hq.out.2.2]
            have := RZ.out; simpa using this
    · have hge' : ¬ ((i : Int) < b) := by omega
      have hR : R = [] := by
        apply List.eq_nil_of_length_eq_zero
        have h1 := HBL.out
        rcases hp.out.2 with h | ⟨h, _⟩
        · rw [hp.out.1, List.length_append] at h1; omega
        · have h2 := hp.out.1; rw [h] at h2
          have := congrArg List.length h2; simp at this; omega
      subst hR
      have R := hid (show Row wr base g n cap (P ++ B.mergeSort le ++ Q) by
        have := hw.out.1; rw [show B = T by rw [hp.out.1]; simp]; simpa using this)
      clear hgk hge
      go_wp2
      go_end0
      exact ⟨rfl, by simpa using R.out, hw.out.2⟩
end Go.Proofs.YtleegelljgnlpaaGreat.X
