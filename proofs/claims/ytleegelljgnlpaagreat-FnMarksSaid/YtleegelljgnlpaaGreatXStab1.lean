/- Stable sorting, walked: swapRangeCmpFunc, rotateCmpFunc. -/
import Derived.Test.YtleegelljgnlpaaGreatXSort
import Derived.Test.YtleegelljgnlpaaGreatP2
import Derived.Test.YtleegelljgnlpaaGreatXRange
import Derived.BigRegion
namespace Go.Proofs.YtleegelljgnlpaaGreat.X
open Go.RowKit Go.XB Go.XN Go.XS
set_option linter.constructorNameAsVariable false

/-- a row of ints of the call's own, as a slice of all of it -/
def Row (w : World) (base g n cap : Nat) (us : List Int) : Prop := w.ownsRow base 3 1 (.slice (some ⟨g, 0, none⟩) n cap) n (us.map (.int .i64))
/-- the call leaves the row as us, and turns nothing else -/
def RowTo (w : World) (base g n cap : Nat) (us : List Int) (e : Ending) (w' : World) : Prop := e = .returned (.tuple #[]) ∧ Row w' base g n cap us ∧ w.grownBy w' (some g)

theorem Row.set {w : World} {base g n cap : Nat} {us : List Int} (h : Row w base g n cap us) (j : Nat) (u : Int) : Row (w.setCell ⟨g, j, none⟩ (.int .i64 u)) base g n cap (us.set j u) := row_set h j u
theorem Row.grown {w : World} {base g n cap : Nat} {us : List Int} (h : Row w base g n cap us) (j : Nat) (u : Value) : w.grownBy (w.setCell ⟨g, j, none⟩ u) (some g) := (World.ownsRow.stored h j u).2
theorem Row.drew {w : World} {base g n cap : Nat} {us : List Int} (h : Row w base g n cap us) : Row w.drew base g n cap us := h
theorem grown_drew (w : World) (r : Option Nat) : w.grownBy w.drew r := ⟨rfl, rfl, rfl, Nat.le_refl _, fun _ _ _ => rfl⟩

set_option maxHeartbeats 2000000 in
theorem sort_swapRange (base g n cap a b k : Nat) (P X Y Z Q : List Int) (f : Value) (w : World) (hr : Row w base g n cap (P ++ X ++ Y ++ Z ++ Q)) (ha : P.length = a) (hb : P.length + X.length + Y.length = b) (hx : X.length = k) (hz : Z.length = k) (hn : n ≤ 1048576) :
    Calls Tryz.prog 113 #[.slice (some ⟨g, 0, none⟩) n cap, .int .i64 a, .int .i64 b, .int .i64 k, f] w (RowTo w base g n cap (P ++ Z ++ Y ++ X ++ Q)) := by
  have HR := hid hr
  have HA := hid ha; have HB := hid hb; have HX := hid hx; have HZ := hid hz
  have hln := row_len hr
  have hl1 : P.length + X.length + Y.length + Z.length + Q.length = n := by rw [← hln]; simp; omega
  have han : a + k ≤ n := by omega
  have hbn : b + k ≤ n := by omega
  have hab : a + k ≤ b := by omega
  clear hr ha hb hx hz hln hl1
  go_enter Tryz.func113, Tryz.ntmps113
  go_wp2_with fail
  go_loopg [10] k (fun gh s wr => ∃ (i : Nat) (X1 X2 Z1 Z2 : List Int), i + gh = k ∧ s = .int .i64 i ∧ Hid ((X = X1 ++ X2 ∧ Z = Z1 ++ Z2) ∧ X1.length = i ∧ Z1.length = i) ∧ Hid (Row wr base g n cap (P ++ Z1 ++ (X2 ++ Y ++ X1) ++ Z2 ++ Q) ∧ w.grownBy wr (some g)))
  case atStart => exact ⟨0, [], X, [], Z, by omega, rfl, ⟨⟨rfl, rfl⟩, rfl, rfl⟩, by simpa using HR.out, World.grownBy.refl _ _⟩
  case round =>
    obtain ⟨i, X1, X2, Z1, Z2, hi, rfl, hp, hw⟩ := hrel
    rcases Nat.lt_or_ge i k with hik | hik
    · obtain ⟨gh, rfl⟩ : ∃ gh', gk = gh' + 1 := ⟨gk - 1, by omega⟩
      have hk' := hid (show i + 1 + gh = k by omega)
      have hik' : (i : Int) < k := by omega
      clear hi
      obtain ⟨x, X3, hx3⟩ : ∃ x X3, X2 = x :: X3 := by
        cases X2 with
        | nil => exfalso; have h1 := hp.out.1.1; have h2 := HX.out; have h3 := hp.out.2.1; rw [h1] at h2; simp at h2; omega
        | cons x l => exact ⟨x, l, rfl⟩
      obtain ⟨z, Z3, hz3⟩ : ∃ z Z3, Z2 = z :: Z3 := by
        cases Z2 with
        | nil => exfalso; have h1 := hp.out.1.2; have h2 := HZ.out; have h3 := hp.out.2.2; rw [h1] at h2; simp at h2; omega
        | cons x l => exact ⟨x, l, rfl⟩
      subst hx3; subst hz3
      have hrow : Row wr base g n cap ((P ++ Z1) ++ x :: ((X3 ++ Y ++ X1) ++ z :: (Z3 ++ Q))) := by have := hw.out.1; simpa using this
      have e1 : (P ++ Z1).length = a + i := by rw [List.length_append, HA.out, hp.out.2.2]
      have e2 : (P ++ Z1).length + 1 + (X3 ++ Y ++ X1).length = b + i := by
        have h1 := HB.out; rw [hp.out.1.1] at h1
        have h2 := hp.out.2.1; have h3 := hp.out.2.2
        simp only [List.length_append, List.length_cons] at h1 ⊢; omega
      have hset := set_swap (P := P ++ Z1) (M := X3 ++ Y ++ X1) (Q := Z3 ++ Q) (x := x) (y := z)
      have g1 := get_mid (P := P ++ Z1) (x := x) (Q := (X3 ++ Y ++ X1) ++ z :: (Z3 ++ Q))
      have g2 := get_mid2 (P := P ++ Z1) (M := X3 ++ Y ++ X1) (Q := Z3 ++ Q) (x := x) (y := z)
      rw [e2, e1] at hset
      rw [e1] at g1
      rw [e2] at g2
      obtain ⟨hgl, c1, f1⟩ := row_cell hrow g1
      obtain ⟨_, c2, f2⟩ := row_cell hrow g2
      have R := hid (show Row ((wr.setCell ⟨g, a + i, none⟩ (.int .i64 z)).setCell ⟨g, b + i, none⟩ (.int .i64 x)) base g n cap (P ++ (Z1 ++ [z]) ++ (X3 ++ Y ++ (X1 ++ [x])) ++ Z3 ++ Q) ∧ w.grownBy ((wr.setCell ⟨g, a + i, none⟩ (.int .i64 z)).setCell ⟨g, b + i, none⟩ (.int .i64 x)) (some g) by
        refine ⟨?_, (hw.out.2.trans (hrow.grown _ _)).trans ((hrow.set _ _).grown _ _)⟩
        have := (hrow.set (a + i) z).set (b + i) x
        rw [hset] at this
        simpa using this)
      have P' := hid (show (X = (X1 ++ [x]) ++ X3 ∧ Z = (Z1 ++ [z]) ++ Z3) ∧ (X1 ++ [x]).length = i + 1 ∧ (Z1 ++ [z]).length = i + 1 by
        refine ⟨⟨by rw [hp.out.1.1]; simp, by rw [hp.out.1.2]; simp⟩, by simp [hp.out.2.1], by simp [hp.out.2.2]⟩)
      have hain : (a : Int) + i < n := by omega
      have hbin : (b : Int) + i < n := by omega
      have hne : a + i ≠ b + i := by omega
      clear hrow hset g1 g2 e1 e2 hik
      go_wp2_with fail
      go_big_region
      all_goals go_wp2
      go_roundg gh
      case measure => omega
      case rel => exact ⟨i + 1, X1 ++ [x], X3, Z1 ++ [z], Z3, hk'.out, by go_num, P'.out, R.out.1.drew, R.out.2.trans (grown_drew _ _)⟩
    · have hik' : ¬ ((i : Int) < k) := by omega
      have e1 : X2 = [] := List.eq_nil_of_length_eq_zero (by have h1 := HX.out; rw [hp.out.1.1] at h1; have h2 := hp.out.2.1; simp only [List.length_append] at h1; omega)
      have e2 : Z2 = [] := List.eq_nil_of_length_eq_zero (by have h1 := HZ.out; rw [hp.out.1.2] at h1; have h2 := hp.out.2.2; simp only [List.length_append] at h1; omega)
      subst e1; subst e2
      have R := hid (show Row wr base g n cap (P ++ Z ++ Y ++ X ++ Q) by
        have := hw.out.1
        rw [hp.out.1.1, hp.out.1.2]
        simpa using this)
      clear hi hik
      go_wp2
      go_end0
      exact ⟨rfl, by simpa using R.out, hw.out.2⟩

theorem split_at {l : List Int} {k : Nat} (h : k ≤ l.length) : ∃ x y, l = x ++ y ∧ x.length = k ∧ y.length = l.length - k := ⟨l.take k, l.drop k, (List.take_append_drop k l).symm, by simp; omega, by simp⟩

set_option maxHeartbeats 2000000 in
theorem sort_rotate (base g n cap a m b : Nat) (P A B Q : List Int) (f : Value) (w : World) (hr : Row w base g n cap (P ++ A ++ B ++ Q)) (ha : P.length = a) (hm : P.length + A.length = m) (hb : P.length + A.length + B.length = b) (hA : 0 < A.length) (hB : 0 < B.length) (hn : n ≤ 1048576) :
    Calls Tryz.prog 102 #[.slice (some ⟨g, 0, none⟩) n cap, .int .i64 a, .int .i64 m, .int .i64 b, f] w (RowTo w base g n cap (P ++ B ++ A ++ Q)) := by
  have HR := hid hr
  have hln := row_len hr
  have hl1 : P.length + A.length + B.length + Q.length = n := by rw [← hln]; simp; omega
  have ham : a < m := by omega
  have hmb : m < b := by omega
  have hbn : b ≤ n := by omega
  have HM := hid (show P.length + A.length = m ∧ A.length = m - a ∧ B.length = b - m by omega)
  clear hr ha hm hb hA hB hln hl1
  go_enter Tryz.func102, Tryz.ntmps102
  go_wp2_with fail
  go_loopg [10, 11] (b - a) (fun gh s1 s2 wr => ∃ (i j : Nat) (B1 A1 B2 A2 : List Int), i + j ≤ gh ∧ (0 < i ∧ 0 < j ∧ i ≤ m ∧ m + j ≤ n) ∧ s1 = .int .i64 i ∧ s2 = .int .i64 j ∧ Hid ((A1.length = i ∧ B2.length = j ∧ P.length + B1.length + i = m) ∧ B ++ A = B1 ++ (B2 ++ A1) ++ A2) ∧ Hid (Row wr base g n cap (P ++ B1 ++ A1 ++ B2 ++ A2 ++ Q) ∧ w.grownBy wr (some g)))
  case atStart => exact ⟨m - a, b - m, [], A, B, [], by omega, by omega, by congr 1; omega, by congr 1; omega, ⟨⟨HM.out.2.1, HM.out.2.2, by have := HM.out; simp; omega⟩, by simp⟩, by simpa using HR.out, World.grownBy.refl _ _⟩
  case round =>
    obtain ⟨i, j, B1, A1, B2, A2, hgk, ⟨hi0, hj0, him, hmj⟩, rfl, rfl, hp, hw⟩ := hrel
    have hmi : ((m - i : Nat) : Int) = (m : Int) - i := by omega
    rcases Nat.lt_trichotomy i j with hij | hij | hij
    · -- the second part is longer
      obtain ⟨X, Y, hxy, hx, hy⟩ := split_at (l := B2) (k := j - i) (by rw [hp.out.1.2.1]; omega)
      have hne : ((i : Int) == j) = false := by simp; omega
      have hne2 : ((i : Int) != j) = true := by simp; omega
      have hgt : ¬ ((j : Int) < i) := by omega
      have hmji : ((m + (j - i) : Nat) : Int) = (m : Int) + j - i := by omega
      have L1 := hp.out.1.1; have L2 := hp.out.1.2.1; have L3 := hp.out.1.2.2
      have hyl : Y.length = i := by omega
      have C := fun f => sort_swapRange base g n cap (m - i) (m + (j - i)) i (P ++ B1) A1 X Y (A2 ++ Q) f wr (by have := hw.out.1; rw [hxy] at this; simpa using this) (by simp; omega) (by simp; omega) L1 hyl hn
      simp only [hmi, hmji] at C
      have C' := hid C
      have P' := hid (show (Y.length = i ∧ X.length = j - i ∧ P.length + B1.length + i = m) ∧ B ++ A = B1 ++ (X ++ Y) ++ (A1 ++ A2) from ⟨⟨hyl, hx, L3⟩, by rw [hp.out.2, hxy]; simp⟩)
      obtain ⟨gh, rfl⟩ : ∃ gh', gk = gh' + 1 := ⟨gk - 1, by omega⟩
      have HG := hid (show i + (j - i) ≤ gh by omega)
      have HIJ := hid hij
      clear C L1 L2 L3 hyl hx hy hxy hmi hmji
      go_wp2_with fail
      refine (C'.out _).mono ?_
      rintro _ w2 ⟨rfl, hrow, hgr⟩
      have R := hid (show Row w2 base g n cap (P ++ B1 ++ Y ++ X ++ (A1 ++ A2) ++ Q) by have := hrow; simpa using this)
      have GR := hid hgr
      clear hrow hgr
      go_wp2_with fail
      go_roundg gh
      case measure => omega
      case rel =>
        have := HIJ.out
        exact ⟨i, j - i, B1, Y, X, A1 ++ A2, HG.out, by omega, by go_num, by congr 1; omega, P'.out, R.out, hw.out.2.trans GR.out⟩
    · -- as long
      subst hij
      have hne : ((i : Int) == i) = true := by simp
      have L1 := hp.out.1.1; have L2 := hp.out.1.2.1; have L3 := hp.out.1.2.2
      have C := fun f => sort_swapRange base g n cap (m - i) m i (P ++ B1) A1 [] B2 (A2 ++ Q) f wr (by have := hw.out.1; simpa using this) (by simp; omega) (by simp; omega) L1 L2 hn
      simp only [hmi] at C
      have C' := hid C
      clear C L1 L2 L3 hmi
      go_wp2_with fail
      refine (C'.out _).mono ?_
      rintro _ w2 ⟨rfl, hrow, hgr⟩
      have R := hid (show Row w2 base g n cap (P ++ B ++ A ++ Q) by
        have h := hp.out.2
        have e : P ++ B ++ A ++ Q = P ++ (B ++ A) ++ Q := by simp
        rw [e, h]; have := hrow; simpa using this)
      have GR := hid hgr
      clear hrow hgr
      go_wp2
      go_end0
      exact ⟨rfl, R.out, hw.out.2.trans GR.out⟩
    · -- the first part is longer
      obtain ⟨X, Y, hxy, hx, hy⟩ := split_at (l := A1) (k := j) (by rw [hp.out.1.1]; omega)
      have hne : ((i : Int) == j) = false := by simp; omega
      have hne2 : ((i : Int) != j) = true := by simp; omega
      have hgt : (j : Int) < i := by omega
      have L1 := hp.out.1.1; have L2 := hp.out.1.2.1; have L3 := hp.out.1.2.2
      have C := fun f => sort_swapRange base g n cap (m - i) m j (P ++ B1) X Y B2 (A2 ++ Q) f wr (by have := hw.out.1; rw [hxy] at this; simpa using this) (by simp; omega) (by simp; omega) hx L2 hn
      simp only [hmi] at C
      have C' := hid C
      have P' := hid (show (Y.length = i - j ∧ X.length = j ∧ P.length + (B1 ++ B2).length + (i - j) = m) ∧ B ++ A = (B1 ++ B2) ++ (X ++ Y) ++ A2 from ⟨⟨by omega, hx, by simp; omega⟩, by rw [hp.out.2, hxy]; simp⟩)
      obtain ⟨gh, rfl⟩ : ∃ gh', gk = gh' + 1 := ⟨gk - 1, by omega⟩
      have HG := hid (show (i - j) + j ≤ gh by omega)
      have HIJ := hid hij
      clear C L1 L2 L3 hx hy hxy hmi
      go_wp2_with fail
      refine (C'.out _).mono ?_
      rintro _ w2 ⟨rfl, hrow, hgr⟩
      have R := hid (show Row w2 base g n cap (P ++ (B1 ++ B2) ++ Y ++ X ++ A2 ++ Q) by have := hrow; simpa using this)
      have GR := hid hgr
      clear hrow hgr
      go_wp2_with fail
      go_roundg gh
      case measure => omega
      case rel =>
        have := HIJ.out
        exact ⟨i - j, j, B1 ++ B2, Y, X, A2, HG.out, by omega, by congr 1; omega, by go_num, P'.out, R.out, hw.out.2.trans GR.out⟩
end Go.Proofs.YtleegelljgnlpaaGreat.X
