/- IsMarked of the program and of the reference. -/
import Derived.Test.YtleegelljgnlpaaGreatXShares
namespace Go.Proofs.YtleegelljgnlpaaGreat.X
open Go.XB Go.XN
/-- the mark at place i breaks the rule: it is out of bounds or not greater than the one ahead of it -/
def markBad (n : Nat) (ks : List Int) (i : Nat) : Bool :=
  match ks[i]? with
  | none => false
  | some k => !inB 0 k ((n : Int) - 1) || (decide (0 < i) && match ks[i - 1]? with | some j => decide (k ≤ j) | none => false)
def marksOk (n : Nat) (ks : List Int) : Bool := (List.range ks.length).all (fun i => !markBad n ks i)
def msum (xs : List TRat) (ks : List Int) : TRat := ks.foldl (fun s k => radd s (xs.getD k.toNat zeroR)) (rint 0)
def markEnd (xs : List TRat) (p : TRat) (ks : List Int) : Bool := (ratOkB (msum xs ks) && ratOkB (rmul p (rsum xs))) && decide (0 ≤ rcmpV (msum xs ks) (rmul p (rsum xs)))
def isMarkedB (xs : List TRat) (p : TRat) (ks : List Int) : Bool := sharesB xs p && (marksOk xs.length ks && markEnd xs p ks)
theorem msum_step {xs : List TRat} {ks : List Int} {k j : Nat} {y : TRat} (h : ks[k]? = some (j : Int)) (hy : xs[j]? = some y) : msum xs (ks.take (k + 1)) = radd (msum xs (ks.take k)) y := by
  unfold msum
  rw [take_step h, List.foldl_append]
  simp [List.getD_eq_getElem?_getD, hy]
theorem marks_bad {n : Nat} {ks : List Int} {i : Nat} (hi : i < ks.length) (h : markBad n ks i = true) : marksOk n ks = false := by
  unfold marksOk
  rw [List.all_eq_false]
  exact ⟨i, List.mem_range.2 hi, by rw [h]; simp⟩
theorem marks_good {n : Nat} {ks : List Int} (h : ∀ i, i < ks.length → markBad n ks i = false) : marksOk n ks = true := by
  unfold marksOk
  rw [List.all_eq_true]
  intro i hi
  rw [h i (List.mem_range.1 hi)]; rfl
end Go.Proofs.YtleegelljgnlpaaGreat.X
namespace Go.Proofs.YtleegelljgnlpaaGreat.X
open Go.RowKit Go.XB Go.XN
attribute [local go_sem] fillBy opAt deps depOf Region.wanted yielded
attribute [local simp] deps depOf MP.eq MP.agg MP.sl Facts
set_option linter.constructorNameAsVariable false

set_option maxHeartbeats 4000000 in
set_option maxRecDepth 10000 in
theorem impl_IsMarked (A : Option Addr) (n c : Nat) (xs : List TRat) (bs : List Nat) (v : Value) (p : TRat) (b : List Nat) (B : Option Addr) (m d : Nat) (ks : List Int) (ds : List Nat) (w : World) (hx : Sl w A n c xs bs) (hp : Agg w v p b) (hk : Sl w B m d ks ds) :
    Calls Tryz.prog 7 #[.slice A n c, v, .slice B m d] w (Gives w (.bool (isMarkedB xs p ks))) := by
  have HL := hid hx.1
  have HX := hid hx
  have hm : n ≤ maxLen := Nat.le_trans hx.2.1 hx.2.2.1
  have hmm : m ≤ maxLen := Nat.le_trans hk.2.1 hk.2.2.1
  unfold maxLen at hm hmm
  have HK := hid hk
  have HKL := hid hk.1
  have HP := hid hp
  obtain ⟨A1, n1, c1, s1, A2, n2, c2, s2, rfl, rfl, hs1, hs2⟩ := TRat.agg hp
  clear hs1 hs2 hp hx hk
  cases hsh : sharesB xs p
  · have e := hid (show false = isMarkedB xs p ks by unfold isMarkedB; rw [hsh]; rfl)
    have SH := hid hsh
    clear hsh
    go_enter Tryz.func7, Tryz.ntmps7
    go_wp2_with fail
    have C := impl_areShares A n c xs _ _ p _ (w.alloc (.cells #[.bool p.num.neg, .slice A1 n1 c1, .slice A2 n2 c2] 29)) (Sl.below HX.out (by (repeat (first | (with_reducible exact Below.refl _ _) | ((with_reducible refine Below.set ?_ ?_ _); rotate_left; (simp <;> omega)) | (with_reducible refine Below.box_ ?_ _) | (with_reducible refine Below.next ?_ (by assumption)))))) (Agg.below HP.out (by (repeat (first | (with_reducible exact Below.refl _ _) | ((with_reducible refine Below.set ?_ ?_ _); rotate_left; (simp <;> omega)) | (with_reducible refine Below.box_ ?_ _) | (with_reducible refine Below.next ?_ (by assumption))))))
    rw [SH.out] at C
    refine C.mono ?_
    clear C
    rintro _ w1 ⟨rfl, hb1⟩
    go_wp2
    go_ret
    exact ⟨ret_bool e.out, by (repeat (first | (with_reducible exact Below.refl _ _) | ((with_reducible refine Below.set ?_ ?_ _); rotate_left; (simp <;> omega)) | (with_reducible refine Below.box_ ?_ _) | (with_reducible refine Below.next ?_ (by assumption))))⟩
  have SH := hid hsh
  have ISM := hid (show isMarkedB xs p ks = (marksOk xs.length ks && markEnd xs p ks) by unfold isMarkedB; rw [hsh]; rfl)
  clear hsh
  go_enter Tryz.func7, Tryz.ntmps7
  go_wp2_with fail
  have C := impl_areShares A n c xs _ _ p _ (w.alloc (.cells #[.bool p.num.neg, .slice A1 n1 c1, .slice A2 n2 c2] 29)) (Sl.below HX.out (by (repeat (first | (with_reducible exact Below.refl _ _) | ((with_reducible refine Below.set ?_ ?_ _); rotate_left; (simp <;> omega)) | (with_reducible refine Below.box_ ?_ _) | (with_reducible refine Below.next ?_ (by assumption)))))) (Agg.below HP.out (by (repeat (first | (with_reducible exact Below.refl _ _) | ((with_reducible refine Below.set ?_ ?_ _); rotate_left; (simp <;> omega)) | (with_reducible refine Below.box_ ?_ _) | (with_reducible refine Below.next ?_ (by assumption))))))
  rw [SH.out] at C
  refine C.mono ?_
  clear C
  rintro _ w1 ⟨rfl, hb1⟩
  obtain ⟨hc_w1, hf_w1⟩ := bcell hb1
  have hz0_w1 : w.heap.size < w1.heap.size := by have := hb1.size; (try simp at this); omega
  go_wp2_with fail
  refine (impl_RatFromInt 0 w1 (by constructor <;> decide)).mono ?_
  rintro _ w2 ⟨v2, t2, rfl, ha2, ho2, hb2⟩
  obtain ⟨Z1, Z2, Z3, Zt, Z4, Z5, Z6, Zs, rfl, hz, _, _⟩ := TRat.agg ha2
  have HA2 := hid ha2; have HR2 := hid ho2.range
  clear ha2 ho2 hz
  obtain ⟨hc_w2, hf_w2⟩ := bcell hb2
  have hz0_w2 : w.heap.size < w2.heap.size := by have := hb2.size; (try simp at this); omega
  have hzx : w.heap.size ≤ w2.heap.size := by omega
  go_wp2_with fail
  go_loopg [18] m (fun g sl wr => ∃ (k : Nat) (s : TRat) (L1 : Option Addr) (l1 k1 : Nat) (L2 : Option Addr) (l2 k2 : Nat) (rs : List Nat), k + g = m ∧ sl = .int .i64 k ∧ Hid (s = msum xs (ks.take k) ∧ ∀ i, i < k → markBad xs.length ks i = false) ∧ Hid (Agg wr (.agg #[.bool s.num.neg, .slice L1 l1 k1, .slice L2 l2 k2]) s rs) ∧ Hid (∀ b ∈ rs, b ≠ w.heap.size ∧ b ≠ w2.heap.size) ∧ Below w.heap.size w wr ∧ w2.heap.size < wr.heap.size ∧ (wr.cell? ⟨w.heap.size, 0, none⟩ = some (.bool p.num.neg) ∧ wr.cell? ⟨w.heap.size, 1, none⟩ = some (.slice A1 n1 c1) ∧ wr.cell? ⟨w.heap.size, 2, none⟩ = some (.slice A2 n2 c2)) ∧ (wr.cell? ⟨w2.heap.size, 0, none⟩ = some (.bool s.num.neg) ∧ wr.cell? ⟨w2.heap.size, 1, none⟩ = some (.slice L1 l1 k1) ∧ wr.cell? ⟨w2.heap.size, 2, none⟩ = some (.slice L2 l2 k2) ∧ wr.frozen? ⟨w2.heap.size, 0, none⟩ = false ∧ wr.frozen? ⟨w2.heap.size, 1, none⟩ = false ∧ wr.frozen? ⟨w2.heap.size, 2, none⟩ = false))
  case atStart =>
    refine ⟨0, rint 0, Z1, Z2, Z3, Z4, Z5, Z6, t2, by omega, rfl, ⟨rfl, fun i h => absurd h (Nat.not_lt_zero i)⟩, HA2.out.below (by (repeat (first | (with_reducible exact Below.refl _ _) | ((with_reducible refine Below.set ?_ ?_ _); rotate_left; (simp <;> omega)) | (with_reducible refine Below.box_ ?_ _) | (with_reducible refine Below.next ?_ (by assumption))))), fun b hb => ?_, by (repeat (first | (with_reducible exact Below.refl _ _) | ((with_reducible refine Below.set ?_ ?_ _); rotate_left; (simp <;> omega)) | (with_reducible refine Below.box_ ?_ _) | (with_reducible refine Below.next ?_ (by assumption)))), by simp, ⟨by go_simp, by go_simp, by go_simp⟩, ?_⟩
    · have := HR2.out b hb; have := hb1.size; simp at this; omega
    · refine ⟨?_, ?_, ?_, ?_, ?_, ?_⟩ <;> go_simp
  case round =>
  clear hc_w1 hf_w1 hc_w2 hf_w2
  obtain ⟨k, s, L1, l1, k1, L2, l2, k2, rs, hk, rfl, hv, hag, hrs, hb, hs2, ⟨hp0, hp1, hp2⟩, hs⟩ := hrel
  have HB := hid hb
  have hu1 : w.heap.size < wr.heap.size := by omega
  have hr2 : w.heap.size ≤ w2.heap.size := hzx
  have nn1 : w.heap.size ≠ w2.heap.size := by omega
  have nn2 : w2.heap.size ≠ w.heap.size := by omega
  rcases Nat.lt_or_ge k m with hkn | hkn
  · obtain ⟨bm, om, kk, rfl, hbm, hk1, hki64, hcm⟩ := Sl.getInt (Sl.below HK.out hb) hkn
    have HK1 := hid hk1
    have hki : (k : Int) < m := by omega
    obtain ⟨g, rfl⟩ : ∃ g, gk = g + 1 := ⟨gk - 1, by omega⟩
    have hk' := hid (show k + 1 + g = m by omega)
    have hk1' : k + 1 ≤ m := hkn
    cases hin : inB 0 kk ((n : Int) - 1)
    · have IN := hid hin
      have e := hid (show false = isMarkedB xs p ks by
        rw [ISM.out, marks_bad (i := k) (by rw [HKL.out]; exact hkn) (by unfold markBad; rw [HK1.out]; simp only [HL.out, hin]; rfl)]; rfl)
      clear hk hkn hk1 hin
      go_wp2_with fail
      have C := impl_within kk 0 ((n : Int) - 1) wr
      rw [IN.out] at C
      refine C.mono ?_
      clear C
      rintro _ w3 ⟨rfl, hb3⟩
      go_wp2
      go_ret
      exact ⟨ret_bool e.out, Below.next HB.out hb3⟩
    have IN := hid hin
    have hin0 : 0 ≤ kk ∧ kk < n := by unfold inB at hin; simp at hin; omega
    rcases Nat.eq_zero_or_pos k with hk0 | hk0
    · subst hk0
      have hcm0 := hcm
      simp only [Nat.add_zero] at hcm0
      obtain ⟨j, rfl⟩ := Int.eq_ofNat_of_zero_le hin0.1
      have hjn : j < n := by omega
      obtain ⟨be, offe, y, E1, q1, p1, E2, q2, p2, fy, rfl, hble, hy1, e0, e1, e2, hagy, hfy⟩ := TRat.elemB HX.out hb hjn
      have HY1 := hid hy1
      have HAY := hid hagy
      have hji : (j : Int) < n := by omega
      have hbler : be < wr.heap.size := by have := hb.size; omega
      have hji0 : (0 : Int) ≤ j := by omega
      have RS := hid (show radd s y = msum xs (ks.take (0 + 1)) ∧ ∀ i, i < 0 + 1 → markBad xs.length ks i = false by
        refine ⟨by rw [msum_step HK1.out HY1.out, hv.out.1], fun i hi => ?_⟩
        obtain rfl : i = 0 := by omega
        unfold markBad; rw [HK1.out]; simp only [HL.out, hin]; rfl)
      clear hk hkn hk1 hin hin0 hagy hfy hy1 hjn
      go_wp2_with fail
      have C := impl_within (j : Int) 0 ((n : Int) - 1) wr
      rw [IN.out] at C
      refine C.mono ?_
      clear C
      rintro _ w3 ⟨rfl, hb3⟩
      obtain ⟨hc_w3, hf_w3⟩ := bcell hb3
      have hx1 : w.heap.size < w3.heap.size := by have := hb3.size; omega
      have hx2 : w2.heap.size < w3.heap.size := by have := hb3.size; omega
      have hx3 : be < w3.heap.size := by have := hb3.size; omega
      have hx4 : bm < w3.heap.size := by have := hb3.size; omega
      have HB3 := hid (Below.next HB.out hb3)
      have HAG3 := hid (hag.out.below hb3)
      have HAY3 := hid (HAY.out.below hb3)
      go_wp2_with fail
      refine wp_region_last (by simp) (by kernel_rfl) (by kernel_rfl) (by kernel_rfl) (by kernel_rfl) ?_
      dsimp only [List.dropLast, List.getLast, List.length]
      iterate 5
        apply walkM_eq
        case h =>
          intro yq zq wq hC hd
          obtain ⟨hcq, hfq⟩ := bcell hC
          simp at hd
          refine ⟨by go_simp; done, ?_⟩
          go_simp
          first | (go_ints; exact rfl) | (go_ints; rw [if_pos (by omega)]; try exact rfl) | exact rfl | (rw [if_pos (by omega)]; try exact rfl)
      refine walkM_call (MP.agg (radd s y)) ?_ ?_
      · intro yq zq wq hC hd
        obtain ⟨hcq, hfq⟩ := bcell hC
        simp at hd
        refine ⟨by go_simp; done, ?_⟩
        apply Exists.intro
        apply Exists.intro
        constructor
        · go_simp
          exact ⟨rfl, rfl⟩
        · exact gives_agg (impl_RatAdd _ _ s y _ _ wq (Agg.below HAG3.out hC) (Agg.below HAY3.out hC))
      intro yq zq wb hC hd hdis0
      have hdis := hid hdis0
      clear hdis0
      simp at hd
      have q5 := hd.2.2.2.2.2
      obtain ⟨⟨ha5, hf5⟩, hr5⟩ := q5
      obtain ⟨B1, B2, B3, Bt, B4, B5, B6, Bs, y5, hz5, _, _⟩ := TRat.agg ha5
      rw [y5] at ha5
      have A5 := hid ha5
      have R5 := hid (show ∀ b ∈ zq 5, b ≠ w.heap.size ∧ b ≠ w2.heap.size from fun b hb => by have := (hr5 b hb).1; omega)
      have HB4 := hid (Below.next HB3.out hC)
      obtain ⟨hc_wb, hf_wb⟩ := bcell hC
      have hsz := hC.size
      have hv1 : w.heap.size < wb.heap.size := by omega
      have hv2 : w2.heap.size < wb.heap.size := by omega
      clear hd hdis hz5 hr5 hf5 ha5 hsz
      go_wp2_with fail
      go_roundg g
      case measure => omega
      case rel =>
        have hkeep : ∀ g, g ≠ w2.heap.size → (((wb.setCell ⟨w2.heap.size, 0, none⟩ (.bool (radd s y).num.neg)).setCell ⟨w2.heap.size, 1, none⟩ (.slice B1 B2 B3)).setCell ⟨w2.heap.size, 2, none⟩ (.slice B4 B5 B6)).heap[g]? = wb.heap[g]? :=
          fun g h1 => heap_setCells w2.heap.size [.bool (radd s y).num.neg, .slice B1 B2 B3, .slice B4 B5 B6] wb 0 g h1
        refine ⟨0 + 1, radd s y, B1, B2, B3, B4, B5, B6, zq 5, hk'.out, by go_num, RS, A5.out.keep fun g hg => hkeep g (R5.out g hg).2, R5.out, ((HB4.out.setCell (p := ⟨w2.heap.size, 0, none⟩) hr2 _).setCell (p := ⟨w2.heap.size, 1, none⟩) hr2 _).setCell (p := ⟨w2.heap.size, 2, none⟩) hr2 _, by simp; omega, ⟨?_, ?_, ?_⟩, ?_⟩
        · go_simp
        · go_simp
        · go_simp
        · refine ⟨?_, ?_, ?_, ?_, ?_, ?_⟩ <;> go_simp
    obtain ⟨k0, rfl⟩ : ∃ k0, k = k0 + 1 := ⟨k - 1, by omega⟩
    obtain ⟨bm', om', jj, hae, hbm', hj1, _, hcj⟩ := Sl.getInt (Sl.below HK.out hb) (show k0 < m by omega)
    injection hae with hae; injection hae with hae1 hae2 _
    subst hae1; subst hae2
    have HJ1 := hid hj1
    have hk0i : (0 : Int) < ((k0 + 1 : Nat) : Int) := by omega
    have hk0s : ((k0 + 1 : Nat) : Int) - 1 = (k0 : Int) := by omega
    have hk0n : (k0 : Int) < m := by omega
    rcases Int.lt_or_le jj kk with hlt | hle
    · have hlt' : ¬ (kk ≤ jj) := by omega
      obtain ⟨j, rfl⟩ := Int.eq_ofNat_of_zero_le hin0.1
      have hjn : j < n := by omega
      obtain ⟨be, offe, y, E1, q1, p1, E2, q2, p2, fy, rfl, hble, hy1, e0, e1, e2, hagy, hfy⟩ := TRat.elemB HX.out hb hjn
      have HY1 := hid hy1
      have HAY := hid hagy
      have hji : (j : Int) < n := by omega
      have hbler : be < wr.heap.size := by have := hb.size; omega
      have hji0 : (0 : Int) ≤ j := by omega
      have RS := hid (show radd s y = msum xs (ks.take (k0 + 1 + 1)) ∧ ∀ i, i < k0 + 1 + 1 → markBad xs.length ks i = false by
        refine ⟨by rw [msum_step HK1.out HY1.out, hv.out.1], fun i hi => ?_⟩
        rcases Nat.lt_or_ge i (k0 + 1) with h1 | h1
        · exact hv.out.2 i h1
        · obtain rfl : i = k0 + 1 := by omega
          unfold markBad; rw [HK1.out]; simp only [HL.out, hin, Nat.add_sub_cancel, HJ1.out, decide_eq_false hlt']; simp)
      clear hk hkn hk1 hin hin0 hagy hfy hy1 hjn hj1
      go_wp2_with fail
      have C := impl_within (j : Int) 0 ((n : Int) - 1) wr
      rw [IN.out] at C
      refine C.mono ?_
      clear C
      rintro _ w3 ⟨rfl, hb3⟩
      obtain ⟨hc_w3, hf_w3⟩ := bcell hb3
      have hx1 : w.heap.size < w3.heap.size := by have := hb3.size; omega
      have hx2 : w2.heap.size < w3.heap.size := by have := hb3.size; omega
      have hx3 : be < w3.heap.size := by have := hb3.size; omega
      have hx4 : bm < w3.heap.size := by have := hb3.size; omega
      have HB3 := hid (Below.next HB.out hb3)
      have HAG3 := hid (hag.out.below hb3)
      have HAY3 := hid (HAY.out.below hb3)
      go_wp2_with fail
      refine wp_region_last (by simp) (by kernel_rfl) (by kernel_rfl) (by kernel_rfl) (by kernel_rfl) ?_
      dsimp only [List.dropLast, List.getLast, List.length]
      iterate 5
        apply walkM_eq
        case h =>
          intro yq zq wq hC hd
          obtain ⟨hcq, hfq⟩ := bcell hC
          simp at hd
          refine ⟨by go_simp; done, ?_⟩
          go_simp
          first | (go_ints; exact rfl) | (go_ints; rw [if_pos (by omega)]; try exact rfl) | exact rfl | (rw [if_pos (by omega)]; try exact rfl)
      refine walkM_call (MP.agg (radd s y)) ?_ ?_
      · intro yq zq wq hC hd
        obtain ⟨hcq, hfq⟩ := bcell hC
        simp at hd
        refine ⟨by go_simp; done, ?_⟩
        apply Exists.intro
        apply Exists.intro
        constructor
        · go_simp
          exact ⟨rfl, rfl⟩
        · exact gives_agg (impl_RatAdd _ _ s y _ _ wq (Agg.below HAG3.out hC) (Agg.below HAY3.out hC))
      intro yq zq wb hC hd hdis0
      have hdis := hid hdis0
      clear hdis0
      simp at hd
      have q5 := hd.2.2.2.2.2
      obtain ⟨⟨ha5, hf5⟩, hr5⟩ := q5
      obtain ⟨B1, B2, B3, Bt, B4, B5, B6, Bs, y5, hz5, _, _⟩ := TRat.agg ha5
      rw [y5] at ha5
      have A5 := hid ha5
      have R5 := hid (show ∀ b ∈ zq 5, b ≠ w.heap.size ∧ b ≠ w2.heap.size from fun b hb => by have := (hr5 b hb).1; omega)
      have HB4 := hid (Below.next HB3.out hC)
      obtain ⟨hc_wb, hf_wb⟩ := bcell hC
      have hsz := hC.size
      have hv1 : w.heap.size < wb.heap.size := by omega
      have hv2 : w2.heap.size < wb.heap.size := by omega
      clear hd hdis hz5 hr5 hf5 ha5 hsz
      go_wp2_with fail
      go_roundg g
      case measure => omega
      case rel =>
        have hkeep : ∀ g, g ≠ w2.heap.size → (((wb.setCell ⟨w2.heap.size, 0, none⟩ (.bool (radd s y).num.neg)).setCell ⟨w2.heap.size, 1, none⟩ (.slice B1 B2 B3)).setCell ⟨w2.heap.size, 2, none⟩ (.slice B4 B5 B6)).heap[g]? = wb.heap[g]? :=
          fun g h1 => heap_setCells w2.heap.size [.bool (radd s y).num.neg, .slice B1 B2 B3, .slice B4 B5 B6] wb 0 g h1
        refine ⟨k0 + 1 + 1, radd s y, B1, B2, B3, B4, B5, B6, zq 5, hk'.out, by go_num, RS, A5.out.keep fun g hg => hkeep g (R5.out g hg).2, R5.out, ((HB4.out.setCell (p := ⟨w2.heap.size, 0, none⟩) hr2 _).setCell (p := ⟨w2.heap.size, 1, none⟩) hr2 _).setCell (p := ⟨w2.heap.size, 2, none⟩) hr2 _, by simp; omega, ⟨?_, ?_, ?_⟩, ?_⟩
        · go_simp
        · go_simp
        · go_simp
        · refine ⟨?_, ?_, ?_, ?_, ?_, ?_⟩ <;> go_simp
    · have e := hid (show false = isMarkedB xs p ks by
        rw [ISM.out, marks_bad (i := k0 + 1) (by rw [HKL.out]; exact hkn) (by unfold markBad; rw [HK1.out]; simp only [HL.out, hin, Nat.add_sub_cancel, HJ1.out, decide_eq_true hle]; simp)]; rfl)
      clear hk hkn hk1 hin hin0 hj1
      go_wp2_with fail
      have C := impl_within kk 0 ((n : Int) - 1) wr
      rw [IN.out] at C
      refine C.mono ?_
      clear C
      rintro _ w3 ⟨rfl, hb3⟩
      obtain ⟨hc_w3, hf_w3⟩ := bcell hb3
      go_wp2
      go_ret
      exact ⟨ret_bool e.out, Below.next HB.out hb3⟩
  have hki : ¬ ((k : Int) < m) := by omega
  have hlt : ks.length ≤ k := by rw [HKL.out]; omega
  have IM := hid (show isMarkedB xs p ks = ((ratOkB s && ratOkB (rmul p (rsum xs))) && decide (0 ≤ rcmpV s (rmul p (rsum xs)))) by
    rw [ISM.out, marks_good (fun i hi => hv.out.2 i (by omega))]
    unfold markEnd
    rw [hv.out.1, List.take_of_length_le hlt]; rfl)
  clear hk hkn hlt
  cases hok : ratOkB s && ratOkB (rmul p (rsum xs))
  · have E := hid (show false = isMarkedB xs p ks by rw [IM.out, hok]; rfl)
    have OK := hid (ok_two hok)
    clear hok
    go_wp2_with fail
    refine wp_region_line 5 (by kernel_rfl) (by kernel_rfl) (by kernel_rfl) (by kernel_rfl) (by kernel_rfl) ?_
    simp only [List.take_succ_cons, List.take_zero, List.drop_succ_cons, List.drop_zero]
    iterate 2
      apply walkM_eq
      case h =>
        intro yq zq wq hC hd
        obtain ⟨hcq, hfq⟩ := bcell hC
        simp at hd
        refine ⟨by go_simp; done, ?_⟩
        go_simp
        first | (go_ints; exact rfl) | (go_ints; rw [if_pos (by omega)]; try exact rfl) | exact rfl | (rw [if_pos (by omega)]; try exact rfl)
    refine walkM_call (MP.agg (rsum xs)) ?_ ?_
    · intro yq zq wq hC hd
      obtain ⟨hcq, hfq⟩ := bcell hC
      simp at hd
      refine ⟨by go_simp; done, ?_⟩
      apply Exists.intro
      apply Exists.intro
      constructor
      · go_simp
        exact ⟨rfl, rfl⟩
      · exact gives_agg (impl_SumOf A n c xs _ wq (Sl.below HX.out (Below.next HB.out hC)))
    refine walkM_call (MP.agg (rmul p (rsum xs))) ?_ ?_
    · intro yq zq wq hC hd
      obtain ⟨hcq, hfq⟩ := bcell hC
      simp at hd
      refine ⟨by go_simp; done, ?_⟩
      apply Exists.intro
      apply Exists.intro
      constructor
      · go_simp
        exact ⟨rfl, rfl⟩
      · obtain ⟨_, t, _⟩ := hd
        exact gives_agg (impl_RatMul _ _ p (rsum xs) _ _ wq (Agg.below HP.out (Below.next HB.out hC)) t)
    refine walkM_new #[.bool false, .slice none 0 0, .slice none 0 0] 29 ?_ ?_
    · intro yq zq wq hC hd
      refine ⟨by go_simp; done, ?_⟩
      go_simp
    intro yq zq wa hC hd hdis0
    have hdis := hid hdis0
    clear hdis0
    simp at hd
    have q3 := hd.2.2.2.1
    have q4 := hd.2.2.2.2
    obtain ⟨⟨ha3, hf3⟩, hr3⟩ := q3
    obtain ⟨B1, B2, B3, Bt, B4, B5, B6, Bs, y3, hz3, _, _⟩ := TRat.agg ha3
    obtain ⟨⟨g1, y4, z4, hg1⟩, hr4⟩ := q4
    rw [y3] at ha3
    rw [z4] at hr4
    have D3 := hid (show ∀ b ∈ zq 3, b ≠ g1 from fun b hb e => by have := hdis.out 3 4 (by decide) (by decide) (by decide) b hb; rw [z4] at this; simp [e] at this)
    have hgr1 := hr4 g1 (by simp)
    obtain ⟨b1c0, b1f0⟩ := box_cell hg1 (j := 0) rfl
    obtain ⟨b1c1, b1f1⟩ := box_cell hg1 (j := 1) rfl
    obtain ⟨b1c2, b1f2⟩ := box_cell hg1 (j := 2) rfl
    have A3 := hid ha3
    have HBA := hid (Below.next HB.out hC)
    have HGA := hid (hag.out.below hC)
    obtain ⟨hc_wa, hf_wa⟩ := bcell hC
    have hg1a : w.heap.size ≤ g1 := by omega
    have hg1b : g1 < wa.heap.size := hgr1.2
    have hv2 : w2.heap.size < wa.heap.size := by omega
    have n1 : g1 ≠ w2.heap.size := by omega
    have n2 : w2.heap.size ≠ g1 := by omega
    have RG := hid (show ∀ b ∈ rs, b ≠ g1 from fun b hb => by have := hag.out.lt b hb; omega)
    clear hd hdis hz3 hr3 hr4 hf3 ha3 hg1 z4
    generalize rmul p (rsum xs) = t at *
    go_wp2_with fail
    have hkeep : ∀ g, g ≠ g1 → (((wa.setCell ⟨g1, 0, none⟩ (.bool t.num.neg)).setCell ⟨g1, 1, none⟩ (.slice B1 B2 B3)).setCell ⟨g1, 2, none⟩ (.slice B4 B5 B6)).heap[g]? = wa.heap[g]? := fun g h1 => heap_setCells g1 [.bool t.num.neg, .slice B1 B2 B3, .slice B4 B5 B6] wa 0 g h1
    have HT := hid (A3.out.keep fun g hg => hkeep g (D3.out g hg))
    have HS := hid (HGA.out.keep fun g hg => hkeep g (RG.out g hg))
    have HBW := hid (show Below w.heap.size w (((wa.setCell ⟨g1, 0, none⟩ (.bool t.num.neg)).setCell ⟨g1, 1, none⟩ (.slice B1 B2 B3)).setCell ⟨g1, 2, none⟩ (.slice B4 B5 B6)) from ((HBA.out.setCell (p := ⟨g1, 0, none⟩) hg1a _).setCell (p := ⟨g1, 1, none⟩) hg1a _).setCell (p := ⟨g1, 2, none⟩) hg1a _)
    clear hkeep
    have C := impl_areRats (some ⟨wa.heap.size, 0, none⟩) 2 2 [s, t] _ ((((wa.setCell ⟨g1, 0, none⟩ (.bool t.num.neg)).setCell ⟨g1, 1, none⟩ (.slice B1 B2 B3)).setCell ⟨g1, 2, none⟩ (.slice B4 B5 B6)).alloc (.cells #[.bool s.num.neg, .slice L1 l1 k1, .slice L2 l2 k2, .bool t.num.neg, .slice B1 B2 B3, .slice B4 B5 B6] 29)) (sl_two (Agg.below HS.out (Below.box _)) (Agg.below HT.out (Below.box _)) (by simp) (by go_simp) (by go_simp) (by go_simp) (by go_simp) (by go_simp) (by go_simp))
    rw [OK.out] at C
    refine C.mono ?_
    clear C
    rintro _ w5 ⟨rfl, hb5⟩
    go_wp2
    go_ret
    exact ⟨ret_bool E.out, Below.next (Below.next HBW.out (Below.box _)) hb5⟩
  · have E := hid (show decide (0 ≤ rcmpV s (rmul p (rsum xs))) = isMarkedB xs p ks by rw [IM.out, hok]; rfl)
    have OK := hid (ok_two hok)
    rw [Bool.and_eq_true] at hok
    have VS := hid (ratOkB_iff.1 hok.1); have VT := hid (ratOkB_iff.1 hok.2)
    clear hok
    go_wp2_with fail
    refine wp_region_line 5 (by kernel_rfl) (by kernel_rfl) (by kernel_rfl) (by kernel_rfl) (by kernel_rfl) ?_
    simp only [List.take_succ_cons, List.take_zero, List.drop_succ_cons, List.drop_zero]
    iterate 2
      apply walkM_eq
      case h =>
        intro yq zq wq hC hd
        obtain ⟨hcq, hfq⟩ := bcell hC
        simp at hd
        refine ⟨by go_simp; done, ?_⟩
        go_simp
        first | (go_ints; exact rfl) | (go_ints; rw [if_pos (by omega)]; try exact rfl) | exact rfl | (rw [if_pos (by omega)]; try exact rfl)
    refine walkM_call (MP.agg (rsum xs)) ?_ ?_
    · intro yq zq wq hC hd
      obtain ⟨hcq, hfq⟩ := bcell hC
      simp at hd
      refine ⟨by go_simp; done, ?_⟩
      apply Exists.intro
      apply Exists.intro
      constructor
      · go_simp
        exact ⟨rfl, rfl⟩
      · exact gives_agg (impl_SumOf A n c xs _ wq (Sl.below HX.out (Below.next HB.out hC)))
    refine walkM_call (MP.agg (rmul p (rsum xs))) ?_ ?_
    · intro yq zq wq hC hd
      obtain ⟨hcq, hfq⟩ := bcell hC
      simp at hd
      refine ⟨by go_simp; done, ?_⟩
      apply Exists.intro
      apply Exists.intro
      constructor
      · go_simp
        exact ⟨rfl, rfl⟩
      · obtain ⟨_, t, _⟩ := hd
        exact gives_agg (impl_RatMul _ _ p (rsum xs) _ _ wq (Agg.below HP.out (Below.next HB.out hC)) t)
    refine walkM_new #[.bool false, .slice none 0 0, .slice none 0 0] 29 ?_ ?_
    · intro yq zq wq hC hd
      refine ⟨by go_simp; done, ?_⟩
      go_simp
    intro yq zq wa hC hd hdis0
    have hdis := hid hdis0
    clear hdis0
    simp at hd
    have q3 := hd.2.2.2.1
    have q4 := hd.2.2.2.2
    obtain ⟨⟨ha3, hf3⟩, hr3⟩ := q3
    obtain ⟨B1, B2, B3, Bt, B4, B5, B6, Bs, y3, hz3, _, _⟩ := TRat.agg ha3
    obtain ⟨⟨g1, y4, z4, hg1⟩, hr4⟩ := q4
    rw [y3] at ha3
    rw [z4] at hr4
    have D3 := hid (show ∀ b ∈ zq 3, b ≠ g1 from fun b hb e => by have := hdis.out 3 4 (by decide) (by decide) (by decide) b hb; rw [z4] at this; simp [e] at this)
    have hgr1 := hr4 g1 (by simp)
    obtain ⟨b1c0, b1f0⟩ := box_cell hg1 (j := 0) rfl
    obtain ⟨b1c1, b1f1⟩ := box_cell hg1 (j := 1) rfl
    obtain ⟨b1c2, b1f2⟩ := box_cell hg1 (j := 2) rfl
    have A3 := hid ha3
    have HBA := hid (Below.next HB.out hC)
    have HGA := hid (hag.out.below hC)
    obtain ⟨hc_wa, hf_wa⟩ := bcell hC
    have hg1a : w.heap.size ≤ g1 := by omega
    have hg1b : g1 < wa.heap.size := hgr1.2
    have hv2 : w2.heap.size < wa.heap.size := by omega
    have n1 : g1 ≠ w2.heap.size := by omega
    have n2 : w2.heap.size ≠ g1 := by omega
    have RG := hid (show ∀ b ∈ rs, b ≠ g1 from fun b hb => by have := hag.out.lt b hb; omega)
    clear hd hdis hz3 hr3 hr4 hf3 ha3 hg1 z4
    generalize rmul p (rsum xs) = t at *
    go_wp2_with fail
    have hkeep : ∀ g, g ≠ g1 → (((wa.setCell ⟨g1, 0, none⟩ (.bool t.num.neg)).setCell ⟨g1, 1, none⟩ (.slice B1 B2 B3)).setCell ⟨g1, 2, none⟩ (.slice B4 B5 B6)).heap[g]? = wa.heap[g]? := fun g h1 => heap_setCells g1 [.bool t.num.neg, .slice B1 B2 B3, .slice B4 B5 B6] wa 0 g h1
    have HT := hid (A3.out.keep fun g hg => hkeep g (D3.out g hg))
    have HS := hid (HGA.out.keep fun g hg => hkeep g (RG.out g hg))
    have HBW := hid (show Below w.heap.size w (((wa.setCell ⟨g1, 0, none⟩ (.bool t.num.neg)).setCell ⟨g1, 1, none⟩ (.slice B1 B2 B3)).setCell ⟨g1, 2, none⟩ (.slice B4 B5 B6)) from ((HBA.out.setCell (p := ⟨g1, 0, none⟩) hg1a _).setCell (p := ⟨g1, 1, none⟩) hg1a _).setCell (p := ⟨g1, 2, none⟩) hg1a _)
    clear hkeep
    have C := impl_areRats (some ⟨wa.heap.size, 0, none⟩) 2 2 [s, t] _ ((((wa.setCell ⟨g1, 0, none⟩ (.bool t.num.neg)).setCell ⟨g1, 1, none⟩ (.slice B1 B2 B3)).setCell ⟨g1, 2, none⟩ (.slice B4 B5 B6)).alloc (.cells #[.bool s.num.neg, .slice L1 l1 k1, .slice L2 l2 k2, .bool t.num.neg, .slice B1 B2 B3, .slice B4 B5 B6] 29)) (sl_two (Agg.below HS.out (Below.box _)) (Agg.below HT.out (Below.box _)) (by simp) (by go_simp) (by go_simp) (by go_simp) (by go_simp) (by go_simp) (by go_simp))
    rw [OK.out] at C
    refine C.mono ?_
    clear C
    rintro _ w5 ⟨rfl, hb5⟩
    obtain ⟨hc_w5, hf_w5⟩ := bcell hb5
    have hsz := hb5.size
    simp at hsz
    have hy1 : g1 < wa.heap.size + 1 := by omega
    have hy2 : w2.heap.size < wa.heap.size + 1 := by omega
    have hy3 : g1 < w5.heap.size := by omega
    have hy4 : w2.heap.size < w5.heap.size := by omega
    clear hsz
    go_wp2_with fail
    refine (impl_compare _ _ s t _ _ w5 (Agg.below (Agg.below HS.out (Below.box _)) hb5) (Agg.below (Agg.below HT.out (Below.box _)) hb5) VS.out VT.out).mono ?_
    rintro _ w6 ⟨rfl, hb6⟩
    go_wp2
    go_ret
    exact ⟨ret_bool E.out, Below.next (Below.next (Below.next HBW.out (Below.box _)) hb5) hb6⟩

end Go.Proofs.YtleegelljgnlpaaGreat.X
