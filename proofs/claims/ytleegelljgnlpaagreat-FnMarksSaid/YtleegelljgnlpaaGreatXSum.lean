/- The sum of a list of fractions: sumOf, SumOf of the program; l19Sum, SumOf of the reference. -/
import Derived.Test.YtleegelljgnlpaaGreatP10
namespace Go.XN
open Go.XB
/-- the sum, from the first one to the last one -/
def rsum (xs : List TRat) : TRat := xs.foldl radd (rint 0)
theorem rsum_step {xs : List TRat} {k : Nat} {x : TRat} (h : xs[k]? = some x) : rsum (xs.take (k + 1)) = radd (rsum (xs.take k)) x := by
  unfold rsum; rw [take_step h, List.foldl_append]; rfl
end Go.XN
namespace Go.XB
theorem Free.keep {w w' : World} {bs : List Nat} (h : Free w bs) (hk : ∀ g ∈ bs, w'.heap[g]? = w.heap[g]?) : Free w' bs := ⟨h.1, fun b hb => by obtain ⟨cs, t, e⟩ := h.2 b hb; exact ⟨cs, t, (hk b hb).trans e⟩⟩
end Go.XB
namespace Go.Proofs.YtleegelljgnlpaaGreat.X
open Go.RowKit Go.XB Go.XN
attribute [local go_sem] fillBy opAt deps depOf Region.wanted yielded
attribute [local simp] deps depOf MP.eq MP.agg MP.sl Facts
set_option linter.constructorNameAsVariable false

set_option maxHeartbeats 4000000 in
set_option maxRecDepth 10000 in
theorem impl_sum (A : Option Addr) (n c : Nat) (xs : List TRat) (bs : List Nat) (w : World) (hx : Sl w A n c xs bs) :
    Calls Tryz.prog 28 #[.slice A n c] w (GivesAgg w (rsum xs)) := by
  have HL := hid hx.1
  have HX := hid hx
  have hm : n ≤ maxLen := Nat.le_trans hx.2.1 hx.2.2.1
  unfold maxLen at hm
  clear hx
  go_enter Tryz.func28, Tryz.ntmps28
  go_wp2_with fail
  refine (impl_RatFromInt 0 _ (by constructor <;> decide)).mono ?_
  rintro _ w1 ⟨v1, s1, rfl, ha1, ho1, hb1⟩
  obtain ⟨B1, m1, d1, t1, B2, m2, d2, t2, rfl, hz, _, _⟩ := TRat.agg ha1
  have HA := hid ha1; have HO := hid ho1
  clear ha1 ho1 hz
  obtain ⟨hc_w1, hf_w1⟩ := bcell hb1
  have hz0_w1 : w.heap.size < w1.heap.size := by have := hb1.size; (try simp at this); omega
  have HZ := hid (show w.heap.size + 1 ≤ w1.heap.size by have := hb1.size; simp at this; omega)
  go_wp2_with fail
  go_loopg [9] n (fun g s wr => ∃ (k : Nat) (r : TRat) (A1 : Option Addr) (n1 c1 : Nat) (A2 : Option Addr) (n2 c2 : Nat) (rs : List Nat), k + g = n ∧ s = .int .i64 k ∧ Hid (r = rsum (xs.take k)) ∧ Hid (Agg wr (.agg #[.bool r.num.neg, .slice A1 n1 c1, .slice A2 n2 c2]) r rs) ∧ Hid (Free wr rs ∧ ∀ b ∈ rs, w.heap.size + 1 ≤ b ∧ b ≠ w1.heap.size) ∧ Below w.heap.size w wr ∧ (w1.heap.size < wr.heap.size ∧ wr.cell? ⟨w.heap.size, 0, none⟩ = some (.bool false) ∧ wr.cell? ⟨w.heap.size, 1, none⟩ = some (.slice none 0 0) ∧ wr.cell? ⟨w.heap.size, 2, none⟩ = some (.slice none 0 0) ∧ wr.frozen? ⟨w.heap.size, 0, none⟩ = false ∧ wr.frozen? ⟨w.heap.size, 1, none⟩ = false ∧ wr.frozen? ⟨w.heap.size, 2, none⟩ = false) ∧ wr.cell? ⟨w1.heap.size, 0, none⟩ = some (.bool r.num.neg) ∧ wr.cell? ⟨w1.heap.size, 1, none⟩ = some (.slice A1 n1 c1) ∧ wr.cell? ⟨w1.heap.size, 2, none⟩ = some (.slice A2 n2 c2) ∧ wr.frozen? ⟨w1.heap.size, 0, none⟩ = false ∧ wr.frozen? ⟨w1.heap.size, 1, none⟩ = false ∧ wr.frozen? ⟨w1.heap.size, 2, none⟩ = false)
  case atStart =>
    refine ⟨0, rint 0, B1, m1, d1, B2, m2, d2, s1, by omega, rfl, by show rint 0 = rsum (xs.take 0); rfl, HA.out.below (by (repeat (first | (with_reducible exact Below.refl _ _) | ((with_reducible refine Below.set ?_ ?_ _); rotate_left; (simp <;> omega)) | (with_reducible refine Below.box_ ?_ _) | (with_reducible refine Below.next ?_ (by assumption))))), ⟨HO.out.free.below (by (repeat (first | (with_reducible exact Below.refl _ _) | ((with_reducible refine Below.set ?_ ?_ _); rotate_left; (simp <;> omega)) | (with_reducible refine Below.box_ ?_ _) | (with_reducible refine Below.next ?_ (by assumption))))), fun b hb => by have := HO.out.range b hb; simp at this; omega⟩, by (repeat (first | (with_reducible exact Below.refl _ _) | ((with_reducible refine Below.set ?_ ?_ _); rotate_left; (simp <;> omega)) | (with_reducible refine Below.box_ ?_ _) | (with_reducible refine Below.next ?_ (by assumption)))), ?_, ?_⟩
    · refine ⟨by simp, ?_, ?_, ?_, ?_, ?_, ?_⟩ <;> go_simp
    · refine ⟨?_, ?_, ?_, ?_, ?_, ?_⟩ <;> go_simp
  case round =>
    obtain ⟨k, r, A1, n1, c1, A2, n2, c2, rs, hk, rfl, hr, hag, hfr, hb, hc, ho⟩ := hrel
    have HB := hid hb
    obtain ⟨hc1, hc2⟩ := hc
    have HZ2 := hid hc1
    rcases Nat.lt_or_ge k n with hkn | hkn
    · obtain ⟨be, offe, x, E1, q1, p1, f1, E2, q2, p2, f2, rfl, hble, hx1, e0, e1, e2, hagx⟩ := TRat.elemA (Sl.below HX.out hb) hkn
      have HX1 := hid hx1
      have HAG := hid hagx
      have hki : (k : Int) < n := by omega
      obtain ⟨g, rfl⟩ : ∃ g, gk = g + 1 := ⟨gk - 1, by omega⟩
      have hk' := hid (show k + 1 + g = n by omega)
      have hk1 : k + 1 ≤ n := hkn
      have hyw0 : w.heap.size < wr.heap.size := by have := HZ.out; omega
      have hyw : w.heap.size < wr.heap.size + 1 := by omega
      have hyw1 : w1.heap.size < wr.heap.size + 1 := by omega
      have RS := hid (show radd r x = rsum (xs.take (k + 1)) by rw [rsum_step HX1.out, hr.out])
      clear hx1 hk hkn hagx
      go_wp2_with fail
      refine (impl_RatAdd _ _ r x _ _ _ (Agg.below hag.out (Below.box _)) (Agg.below HAG.out (Below.box _))).mono ?_
      rintro _ w2 ⟨v2, s2, rfl, ha2, ho2, hb2⟩
      obtain ⟨D1, x1, y1, z1, D2, x2, y2, z2, rfl, hz, _, _⟩ := TRat.agg ha2
      have HA2 := hid ha2; have HO2 := hid ho2; have HB2 := hid hb2
      clear ha2 ho2 hz
      obtain ⟨hc_w2, hf_w2⟩ := bcell hb2
      have hzw : w.heap.size < w2.heap.size := by have := hb2.size; simp at this; omega
      have hzw1 : w1.heap.size < w2.heap.size := by have := hb2.size; simp at this; omega
      have hnew : ∀ b ∈ s2, w.heap.size + 1 ≤ b ∧ b ≠ w1.heap.size := fun b hb => by
        have := (HO2.out.range b hb).1; simp at this; have := HZ2.out; have := HB.out.size; have := HZ.out; omega
      have HN := hid hnew
      have HLE := hid (show w.heap.size ≤ w1.heap.size by have := HZ.out; omega)
      clear hnew
      go_wp2_with fail
      go_roundg g
      case measure => omega
      case rel =>
        have hkeep : ∀ g ∈ s2, (((w2.setCell ⟨w1.heap.size, 0, none⟩ (.bool (radd r x).num.neg)).setCell ⟨w1.heap.size, 1, none⟩ (.slice D1 x1 y1)).setCell ⟨w1.heap.size, 2, none⟩ (.slice D2 x2 y2)).heap[g]? = w2.heap[g]? :=
          fun g hg => heap_setCells w1.heap.size [.bool (radd r x).num.neg, .slice D1 x1 y1, .slice D2 x2 y2] w2 0 g (HN.out g hg).2
        refine ⟨k + 1, radd r x, D1, x1, y1, D2, x2, y2, s2, hk'.out, by go_num, RS.out, HA2.out.keep hkeep, ⟨HO2.out.free.keep hkeep, HN.out⟩, ?_, ?_, ?_⟩
        · have hb3 : Below w.heap.size w w2 := Below.next (Below.next HB.out (Below.box _)) HB2.out
          exact ((hb3.setCell (p := ⟨w1.heap.size, 0, none⟩) HLE.out _).setCell (p := ⟨w1.heap.size, 1, none⟩) HLE.out _).setCell (p := ⟨w1.heap.size, 2, none⟩) HLE.out _
        · refine ⟨by simp; omega, ?_, ?_, ?_, ?_, ?_, ?_⟩ <;> go_simp
        · refine ⟨?_, ?_, ?_, ?_, ?_, ?_⟩ <;> go_simp
    · have hki : ¬ ((k : Int) < n) := by omega
      have E := hid (show r = rsum xs by rw [hr.out, List.take_of_length_le (by rw [HL.out]; omega)])
      clear hk hkn
      go_wp2_with fail
      refine bodyPost_ret (v := .agg #[.bool r.num.neg, .slice A1 n1 c1, .slice A2 n2 c2]) (by simp [results, Tryz.results28, go_sem, *]) rfl ?_
      rw [← E.out]
      have hne : ∀ b ∈ rs, b ≠ w.heap.size := fun b hb => by have := (hfr.out.2 b hb).1; omega
      have hkeep : ∀ g ∈ rs, (((wr.setCell ⟨w.heap.size, 0, none⟩ (.bool r.num.neg)).setCell ⟨w.heap.size, 1, none⟩ (.slice A1 n1 c1)).setCell ⟨w.heap.size, 2, none⟩ (.slice A2 n2 c2)).heap[g]? = wr.heap[g]? :=
        fun g hg => heap_setCells w.heap.size [.bool r.num.neg, .slice A1 n1 c1, .slice A2 n2 c2] wr 0 g (hne g hg)
      refine ⟨_, rs, rfl, hag.out.keep hkeep, (hfr.out.1.keep hkeep).own (fun b hb => by have := (hfr.out.2 b hb).1; omega), ?_⟩
      exact ((HB.out.setCell (p := ⟨w.heap.size, 0, none⟩) (Nat.le_refl _) _).setCell (p := ⟨w.heap.size, 1, none⟩) (Nat.le_refl _) _).setCell (p := ⟨w.heap.size, 2, none⟩) (Nat.le_refl _) _

set_option maxHeartbeats 1000000 in
theorem impl_SumOf (A : Option Addr) (n c : Nat) (xs : List TRat) (bs : List Nat) (w : World) (hx : Sl w A n c xs bs) :
    Calls Tryz.prog 11 #[.slice A n c] w (GivesAgg w (rsum xs)) := by
  have HX := hid hx
  clear hx
  go_enter Tryz.func11, Tryz.ntmps11
  go_wp2_with fail
  refine (impl_sum A n c xs _ _ (Sl.below HX.out (by (repeat (first | (with_reducible exact Below.refl _ _) | ((with_reducible refine Below.set ?_ ?_ _); rotate_left; (simp <;> omega)) | (with_reducible refine Below.box_ ?_ _) | (with_reducible refine Below.next ?_ (by assumption))))))).mono ?_
  rintro _ w1 ⟨v1, s1, rfl, ha1, ho1, hb1⟩
  obtain ⟨B1, m1, d1, t1, B2, m2, d2, t2, rfl, hz, _, _⟩ := TRat.agg ha1
  have HA := hid ha1; have HO := hid ho1
  clear ha1 ho1 hz
  obtain ⟨hc_w1, hf_w1⟩ := bcell hb1
  have hz0_w1 : w.heap.size < w1.heap.size := by have := hb1.size; (try simp at this); omega
  have uc0 : w1.cell? ⟨w.heap.size, 0, none⟩ = some (.bool false) := by go_simp
  have uf0 : w1.frozen? ⟨w.heap.size, 0, none⟩ = false := by go_simp
  have uc1 : w1.cell? ⟨w.heap.size, 1, none⟩ = some (.slice none 0 0) := by go_simp
  have uf1 : w1.frozen? ⟨w.heap.size, 1, none⟩ = false := by go_simp
  have uc2 : w1.cell? ⟨w.heap.size, 2, none⟩ = some (.slice none 0 0) := by go_simp
  have uf2 : w1.frozen? ⟨w.heap.size, 2, none⟩ = false := by go_simp
  go_wp2
  refine bodyPost_ret (v := .agg #[.bool (rsum xs).num.neg, .slice B1 m1 d1, .slice B2 m2 d2]) (by simp [results, Tryz.results11, go_sem, *]) rfl ?_
  refine agg_fin (lo := w.heap.size + 1) HA.out HO.out.free (fun b hb => by have := (HO.out.range b hb).1; (try simp at this); omega) (by omega) ?_ ?_
  · (repeat (first | (with_reducible exact Above.refl _ _) | ((with_reducible refine Above.set ?_ ?_ _); rotate_left; (simp <;> omega)) | (with_reducible refine Above.box ?_ _) | (with_reducible refine Above.below ?_ (by assumption))))
  · (repeat (first | (with_reducible exact Below.refl _ _) | ((with_reducible refine Below.set ?_ ?_ _); rotate_left; (simp <;> omega)) | (with_reducible refine Below.box_ ?_ _) | (with_reducible refine Below.next ?_ (by assumption))))
end Go.Proofs.YtleegelljgnlpaaGreat.X
