/- Stable sorting, walked: symMergeCmpFunc at all lengths, stableCmpFunc, SortStableFunc. -/
import Derived.Test.YtleegelljgnlpaaGreatXStab5
namespace Go.Proofs.YtleegelljgnlpaaGreat.X
open Go.RowKit Go.XB Go.XN Go.XS
attribute [local go_sem] fillBy opAt deps depOf Region.wanted yielded
attribute [local simp] deps depOf MP.eq MP.agg MP.sl Facts
set_option linter.constructorNameAsVariable false

theorem sort_sym (base g n cap F : Nat) (pv : Value) (cf : Int → Int → Int) (le : Int → Int → Bool) (hn : n ≤ 1048576) : ∀ N : Nat, SymOk base g n cap F pv cf le N := by
  intro N
  induction N with
  | zero =>
    intro a m b P L R Q w hN hr ha hm hb hL hR
    exfalso; omega
  | succ N ih =>
    intro a m b P L R Q w hN hr ha hm hb hL hR hc hin hup hsL hsR
    by_cases h1 : L.length = 1
    · obtain ⟨x, rfl⟩ := List.length_eq_one_iff.1 h1
      have hm' : m = a + 1 := by simp at hm; omega
      subst hm'
      exact sort_symLeft base g n cap a b F pv cf le P R Q x w hr ha (by omega) hn hc (hin x (by simp)) (fun y hy => ⟨hin y (by simp [hy]), hup x (by simp) y hy⟩) hsR
    · by_cases h2 : R.length = 1
      · obtain ⟨y, rfl⟩ := List.length_eq_one_iff.1 h2
        have hb' : b = m + 1 := by simp at hb; omega
        subst hb'
        exact sort_symRight base g n cap a m F pv cf le P L Q y w hr ha hm (by omega) hn hc (hin y (by simp)) (fun x hx => ⟨hin x (by simp [hx]), hup x hx y (by simp)⟩) hsL
      · exact sort_symStep base g n cap F pv cf le hn N ih a m b P L R Q w (by omega) hr ha hm hb (by omega) (by omega) hc hin hup hsL hsR

theorem pair_split {B : List Int} (h : B.Pairwise (· < ·)) {a S : Nat} {x y : Int} (hx : x ∈ (B.drop a).take S) (hy : y ∈ (B.drop a).drop S) : x < y := by
  have h1 := h.sublist (List.drop_sublist a B)
  rw [← List.take_append_drop S (B.drop a)] at h1
  exact (List.pairwise_append.1 h1).2.2 x hx y hy
/-- one block more is sorted -/
theorem blocks_next {le : Int → Int → Bool} {S a : Nat} (hS : 0 < S) {B : List Int} (ha : a ≤ B.length) (hm : a % S = 0) :
    blocks le S (B.take (a + S)) = blocks le S (B.take a) ++ ((B.drop a).take S).mergeSort le := by
  have e : B.take (a + S) = B.take a ++ (B.drop a).take S := by rw [List.take_add]
  rw [e, blocks_append hS (by rw [List.length_take, Nat.min_eq_left ha]; exact hm), blocks_one hS (l := (B.drop a).take S) (by simp; omega)]
theorem blocks_all {le : Int → Int → Bool} {S a : Nat} (hS : 0 < S) {B : List Int} (ha : a ≤ B.length) (hm : a % S = 0) : blocks le S B = blocks le S (B.take a) ++ blocks le S (B.drop a) := by
  conv => lhs; rw [← List.take_append_drop a B]
  exact blocks_append hS (by rw [List.length_take, Nat.min_eq_left ha]; exact hm)
theorem blocks_len {le : Int → Int → Bool} {S : Nat} (hS : 0 < S) (l : List Int) : (blocks le S l).length = l.length := blocks_length hS _ l rfl
theorem srt_mem {le : Int → Int → Bool} {l : List Int} {x : Int} (h : x ∈ l.mergeSort le) : x ∈ l := List.mem_mergeSort.1 h

set_option maxHeartbeats 4000000 in
set_option maxRecDepth 10000 in
theorem sort_stable (base g n cap F : Nat) (pv : Value) (cf : Int → Int → Int) (le : Int → Int → Bool) (B : List Int) (w : World) (hr : Row w base g n cap B) (hn : n ≤ 1048576)
    (hc : Cmp w g n F pv cf le) (hB : ∀ x ∈ B, 0 ≤ x ∧ x < n) (hup : B.Pairwise (· < ·)) :
    Calls Tryz.prog 48 #[.slice (some ⟨g, 0, none⟩) n cap, .int .i64 n, .func (.func F) #[] #[pv]] w (RowTo w base g n cap (B.mergeSort le)) := by
  have HR := hid hr; have HC := hid hc; have HB := hid hB; have HUP := hid hup
  have HLN := hid (show B.length = n from row_len hr)
  clear hr hc hB hup
  go_enter Tryz.func48, Tryz.ntmps48
  go_wp2_with fail
  go_loopg [7, 8] n (fun gh s1 s2 wr => ∃ a : Nat, n ≤ a + gh ∧ a ≤ n ∧ s1 = .int .i64 a ∧ s2 = .int .i64 ((a : Int) + 20) ∧ Hid (a % 20 = 0) ∧ Hid (Row wr base g n cap (blocks le 20 (B.take a) ++ B.drop a) ∧ w.grownBy wr (some g)))
  case atStart => exact ⟨0, by omega, Nat.zero_le _, rfl, by go_num, rfl, by simpa [blocks_nil] using HR.out, World.grownBy.refl _ _⟩
  case round =>
    obtain ⟨a, hgh, han, rfl, rfl, hmod, hw⟩ := hrel
    have hln := HLN.out
    rcases Nat.lt_or_ge n (a + 20) with hlt | hge
    · have hlt' : ¬ ((a : Int) + 20 ≤ n) := by omega
      have C := sort_insertion base g n cap a n F pv cf le (blocks le 20 (B.take a)) (B.drop a) [] wr (by simpa using hw.out.1) (by rw [blocks_len (by decide)]; simp; omega) (by rw [blocks_len (by decide)]; simp; omega) hn (HC.out.from_ hw.out.2) (fun x hx => HB.out x (List.mem_of_mem_drop hx)) (HUP.out.sublist (List.drop_sublist a B))
      have C' := hid C
      have E := hid (show blocks le 20 (B.take a) ++ (B.drop a).mergeSort le = blocks le 20 B by
        rw [blocks_all (B := B) (a := a) (by decide) (by omega) hmod.out, blocks_one (l := B.drop a) (by decide) (by simp; omega)])
      clear C hlt hgh hln
      go_wp2_with fail
      refine C'.out.mono ?_
      rintro _ wv ⟨rfl, hrow, hgr⟩
      have R1 := hid (show Row wv base g n cap (blocks le 20 B) by have := hrow; rw [List.append_nil, E.out] at this; exact this)
      have G1 := hid (hw.out.2.trans hgr)
      clear hrow hgr hw
      go_wp2_with fail
      go_loopg [6] n (fun gh s1 wr => ∃ S : Nat, n ≤ S + gh ∧ (0 < S ∧ S ≤ n + n + 20) ∧ s1 = .int .i64 S ∧ Hid (Row wr base g n cap (blocks le S B) ∧ w.grownBy wr (some g)))
      case atStart => exact ⟨20, by omega, by omega, rfl, R1.out, G1.out⟩
      case round =>
        clear R1 G1
        obtain ⟨S, hgh, ⟨hS0, hSn⟩, rfl, hw⟩ := hrel
        have hln := HLN.out
        rcases Nat.lt_or_ge S n with hlt | hge
        · have hlt' : (S : Int) < n := by omega
          obtain ⟨gh, rfl⟩ : ∃ gh', gk = gh' + 1 := ⟨gk - 1, by omega⟩
          have HG := hid (show n ≤ S * 2 + gh ∧ (0 < S * 2 ∧ S * 2 ≤ n + n + 20) by omega)
          have HS0 := hid hS0
          clear hgh hSn hlt
          go_wp2_with fail
          go_loopg [7, 8] n (fun gh s1 s2 wr => ∃ a : Nat, n ≤ a + gh ∧ a ≤ n ∧ s1 = .int .i64 a ∧ s2 = .int .i64 ((a : Int) + 2 * S) ∧ Hid (a % (S + S) = 0) ∧ Hid (Row wr base g n cap (blocks le (S + S) (B.take a) ++ blocks le S (B.drop a)) ∧ w.grownBy wr (some g)))
          case atStart => exact ⟨0, by omega, Nat.zero_le _, rfl, by first | rfl | go_num | (congr 1; omega), Nat.zero_mod _, by simpa [blocks_nil] using hw.out.1, hw.out.2⟩
          case round =>
            clear hw
            obtain ⟨a, hgh, han, rfl, rfl, hmod, hw⟩ := hrel
            rcases Nat.lt_or_ge n (a + (S + S)) with hlt | hge
            · have hln := HLN.out
              have hlt' : ¬ ((a : Int) + 2 * S ≤ n) := by omega
              have hSp := HS0.out
              obtain ⟨m, hm⟩ : ∃ m : Nat, m = a + S := ⟨_, rfl⟩
              have hmi : (a : Int) + S = m := by omega
              rcases Nat.lt_or_ge m n with hmn | hmn
              · have hmn' : (m : Int) < n := by omega
                have e1 : blocks le S (B.drop a) = ((B.drop a).take S).mergeSort le ++ ((B.drop a).drop S).mergeSort le := by
                  rw [blocks_step hSp, blocks_one (l := (B.drop a).drop S) hSp (by simp; omega)]
                have hrow : Row wr base g n cap (blocks le (S + S) (B.take a) ++ ((B.drop a).take S).mergeSort le ++ ((B.drop a).drop S).mergeSort le ++ []) := by
                  have := hw.out.1; rw [e1] at this; simpa using this
                have hsub : ∀ x, x ∈ (B.drop a).take S → x ∈ B := fun x hx => List.mem_of_mem_drop (List.mem_of_mem_take hx)
                have hsub2 : ∀ x, x ∈ (B.drop a).drop S → x ∈ B := fun x hx => List.mem_of_mem_drop (List.mem_of_mem_drop hx)
                have C := sort_sym base g n cap F pv cf le hn n a m n (blocks le (S + S) (B.take a)) (((B.drop a).take S).mergeSort le) (((B.drop a).drop S).mergeSort le) [] wr (by omega) hrow (by rw [blocks_len (by omega)]; simp; omega) (by simp; omega) (by simp; omega) (by simp; omega) (by simp; omega) (HC.out.from_ hw.out.2)
                  (fun x hx => by rcases List.mem_append.1 hx with h | h; exact HB.out x (hsub x (srt_mem h)); exact HB.out x (hsub2 x (srt_mem h)))
                  (fun x hx y hy => pair_split HUP.out (srt_mem hx) (srt_mem hy)) (sort_srt HC.out.ord _) (sort_srt HC.out.ord _)
                have C' := hid C
                have E := hid (show blocks le (S + S) (B.take a) ++ (((B.drop a).take S).mergeSort le ++ ((B.drop a).drop S).mergeSort le).mergeSort le = blocks le (S + S) B by
                  rw [sort_halves HC.out.ord, List.take_append_drop, blocks_all (B := B) (a := a) (by omega) (by omega) hmod.out, blocks_one (l := B.drop a) (by omega) (by simp; omega)])
                clear C e1 hrow hsub hsub2 hlt hmn hm hgh han hln hSp
                go_wp2_with fail
                refine C'.out.mono ?_
                rintro _ wv ⟨rfl, hrow, hgr⟩
                have R2 := hid (show Row wv base g n cap (blocks le (S * 2) B) by have := hrow; rw [List.append_nil, E.out] at this; rw [Nat.mul_two]; exact this)
                have G2 := hid (hw.out.2.trans hgr)
                clear hrow hgr
                go_wp2
                go_roundg gh
                case measure => omega
                case rel => exact ⟨S * 2, HG.out.1, HG.out.2, by first | rfl | go_num | (congr 1; omega), R2.out, G2.out⟩
              · have hmn' : ¬ ((m : Int) < n) := by omega
                have R2 := hid (show Row wr base g n cap (blocks le (S * 2) B) by
                  have := hw.out.1
                  rw [Nat.mul_two, blocks_all (S := S + S) (a := a) (B := B) (by omega) (by omega) hmod.out, blocks_one (B := S + S) (l := B.drop a) (by omega) (by simp; omega)]
                  rwa [blocks_one (B := S) (l := B.drop a) hSp (by simp; omega)] at this)
                have hmb : (m : Int) ≤ 4000000 := by have := HG.out; omega
                clear hlt hmn hm hgh han hln hSp
                go_wp2
                go_roundg gh
                case measure => omega
                case rel => exact ⟨S * 2, HG.out.1, HG.out.2, by first | rfl | go_num | (congr 1; omega), R2.out, hw.out.2⟩
            · have hln := HLN.out
              have hge' : (a : Int) + 2 * S ≤ n := by omega
              have hSp := HS0.out
              obtain ⟨g3, rfl⟩ : ∃ gh', gk = gh' + 1 := ⟨gk - 1, by omega⟩
              have HG3 := hid (show n ≤ (a + (S + S)) + g3 ∧ a + (S + S) ≤ n by omega)
              have e1 : blocks le S (B.drop a) = ((B.drop a).take S).mergeSort le ++ (((B.drop a).drop S).take S).mergeSort le ++ blocks le S (B.drop (a + (S + S))) := by
                rw [blocks_step hSp, blocks_step hSp (l := (B.drop a).drop S), List.drop_drop, List.drop_drop, List.append_assoc, Nat.add_assoc]
              have hrow : Row wr base g n cap (blocks le (S + S) (B.take a) ++ ((B.drop a).take S).mergeSort le ++ (((B.drop a).drop S).take S).mergeSort le ++ blocks le S (B.drop (a + (S + S)))) := by
                have := hw.out.1; rw [e1] at this; simpa using this
              have hsub : ∀ x, x ∈ (B.drop a).take S → x ∈ B := fun x hx => List.mem_of_mem_drop (List.mem_of_mem_take hx)
              have hsub2 : ∀ x, x ∈ ((B.drop a).drop S).take S → x ∈ B := fun x hx => List.mem_of_mem_drop (List.mem_of_mem_drop (List.mem_of_mem_take hx))
              have C := sort_sym base g n cap F pv cf le hn n a (a + S) (a + (S + S)) (blocks le (S + S) (B.take a)) (((B.drop a).take S).mergeSort le) ((((B.drop a).drop S).take S).mergeSort le) (blocks le S (B.drop (a + (S + S)))) wr (by omega) hrow (by rw [blocks_len (by omega)]; simp; omega) (by simp; omega) (by simp; omega) (by simp; omega) (by simp; omega) (HC.out.from_ hw.out.2)
                (fun x hx => by rcases List.mem_append.1 hx with h | h; exact HB.out x (hsub x (srt_mem h)); exact HB.out x (hsub2 x (srt_mem h)))
                (fun x hx y hy => pair_split HUP.out (srt_mem hx) (List.mem_of_mem_take (srt_mem hy))) (sort_srt HC.out.ord _) (sort_srt HC.out.ord _)
              rw [show ((a + S : Nat) : Int) = (a : Int) + S by omega, show ((a + (S + S) : Nat) : Int) = (a : Int) + 2 * S by omega] at C
              have C' := hid C
              have E := hid (show blocks le (S + S) (B.take a) ++ (((B.drop a).take S).mergeSort le ++ (((B.drop a).drop S).take S).mergeSort le).mergeSort le = blocks le (S + S) (B.take (a + (S + S))) by
                rw [sort_halves HC.out.ord, blocks_next (by omega) (by omega) hmod.out, ← List.take_add])
              have HM := hid (show (a + (S + S)) % (S + S) = 0 by rw [Nat.add_mod_right]; exact hmod.out)
              clear C e1 hrow hsub hsub2 hge hgh han hln hSp
              go_wp2_with fail
              refine C'.out.mono ?_
              rintro _ wv ⟨rfl, hrow, hgr⟩
              have R2 := hid (show Row wv base g n cap (blocks le (S + S) (B.take (a + (S + S))) ++ blocks le S (B.drop (a + (S + S)))) by have := hrow; rw [E.out] at this; exact this)
              have G2 := hid (hw.out.2.trans hgr)
              clear hrow hgr
              go_wp2
              go_roundg g3
              case measure => omega
              case rel => exact ⟨a + (S + S), HG3.out.1, HG3.out.2, by first | rfl | go_num | (congr 1; omega), by first | rfl | go_num | (congr 1; omega), HM.out, R2.out, G2.out⟩
        · have hge' : ¬ ((S : Int) < n) := by omega
          have R2 := hid (show Row wr base g n cap (B.mergeSort le) by
            have := hw.out.1
            rwa [blocks_one hS0 (by omega)] at this)
          clear hgh hS0 hSn hge hln
          go_wp2
          go_end0
          exact ⟨rfl, R2.out, hw.out.2⟩
    · have hge' : (a : Int) + 20 ≤ n := by omega
      obtain ⟨gh, rfl⟩ : ∃ gh', gk = gh' + 1 := ⟨gk - 1, by omega⟩
      have HG := hid (show n ≤ (a + 20) + gh ∧ a + 20 ≤ n by omega)
      have C := sort_insertion base g n cap a (a + 20) F pv cf le (blocks le 20 (B.take a)) ((B.drop a).take 20) ((B.drop a).drop 20) wr (by rw [List.append_assoc, List.take_append_drop]; exact hw.out.1) (by rw [blocks_len (by decide)]; simp; omega) (by rw [blocks_len (by decide)]; simp; omega) hn (HC.out.from_ hw.out.2) (fun x hx => HB.out x (List.mem_of_mem_drop (List.mem_of_mem_take hx))) ((HUP.out.sublist (List.drop_sublist a B)).sublist (List.take_sublist 20 _))
      rw [show ((a + 20 : Nat) : Int) = (a : Int) + 20 by omega, ← blocks_next (by decide) (by omega) hmod.out, List.drop_drop] at C
      have C' := hid C
      have HM := hid (show (a + 20) % 20 = 0 by rw [Nat.add_mod_right]; exact hmod.out)
      clear C hge hgh han hln
      go_wp2_with fail
      refine C'.out.mono ?_
      rintro _ wv ⟨rfl, hrow, hgr⟩
      have R2 := hid hrow
      have G2 := hid (hw.out.2.trans hgr)
      clear hrow hgr
      go_wp2
      go_roundg gh
      case measure => omega
      case rel => exact ⟨a + 20, HG.out.1, HG.out.2, by go_num, by first | rfl | go_num | (congr 1; omega), HM.out, R2.out, G2.out⟩

set_option maxHeartbeats 1000000 in
theorem sort_SortStable (base g n cap F : Nat) (pv : Value) (cf : Int → Int → Int) (le : Int → Int → Bool) (B : List Int) (w : World) (hr : Row w base g n cap B) (hn : n ≤ 1048576)
    (hc : Cmp w g n F pv cf le) (hB : ∀ x ∈ B, 0 ≤ x ∧ x < n) (hup : B.Pairwise (· < ·)) :
    Calls Tryz.prog 24 #[.slice (some ⟨g, 0, none⟩) n cap, .func (.func F) #[] #[pv]] w (RowTo w base g n cap (B.mergeSort le)) := by
  have C' := hid (sort_stable base g n cap F pv cf le B w hr hn hc hB hup)
  clear hr hc hB hup
  go_enter Tryz.func24, Tryz.ntmps24
  go_wp2_with fail
  refine C'.out.mono ?_
  rintro _ wv ⟨rfl, hrow, hgr⟩
  have R2 := hid hrow; have G2 := hid hgr
  clear hrow hgr
  go_wp2
  go_end0
  exact ⟨rfl, R2.out, G2.out⟩
end Go.Proofs.YtleegelljgnlpaaGreat.X
