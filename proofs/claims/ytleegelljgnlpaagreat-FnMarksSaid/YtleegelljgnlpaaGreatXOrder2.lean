/- OrderOf of the reference. -/
import Derived.Test.YtleegelljgnlpaaGreatXOrder
import Derived.Maps.AppendAt
namespace Go.Proofs.YtleegelljgnlpaaGreat.X
open Go.RowKit Go.XB Go.XN Go.XS
attribute [local go_sem] fillBy opAt deps depOf Region.wanted yielded
attribute [local simp] deps depOf MP.eq MP.agg MP.sl Facts
set_option linter.constructorNameAsVariable false

theorem add0 (g : Nat) (k j : Nat) : (⟨g, k, none⟩ : Addr).add j = ⟨g, k + j, none⟩ := by unfold Addr.add; split <;> simp_all
theorem row_cells_at {w : World} {base g n cap k : Nat} {S1 S2 : List Int} (h : Row w base g n cap (S1 ++ S2)) (hl : S1.length = k) : ∀ j u, (S2.map (.int .i64))[j]? = some u → w.cell? ((⟨g, k, none⟩ : Addr).add j) = some u := by
  intro j u hu
  rw [List.getElem?_map] at hu
  obtain ⟨x, hx, rfl⟩ := Option.map_eq_some_iff.1 hu
  rw [add0]
  exact (row_cell h (j := k + j) (x := x) (by rw [List.getElem?_append_right (by omega), show k + j - S1.length = j by omega]; exact hx)).2.1
theorem row_cells_pre {w : World} {base g n cap : Nat} {S1 S2 : List Int} (h : Row w base g n cap (S1 ++ S2)) : ∀ j u, (S1.map (.int .i64))[j]? = some u → w.cell? ((⟨g, 0, none⟩ : Addr).add j) = some u := by
  intro j u hu
  rw [List.getElem?_map] at hu
  obtain ⟨x, hx, rfl⟩ := Option.map_eq_some_iff.1 hu
  rw [add0, Nat.zero_add]
  exact (row_cell h (j := j) (x := x) (by rw [List.getElem?_append_left (List.getElem?_eq_some_iff.1 hx).1]; exact hx)).2.1
theorem rcmp_key {xs : List TRat} {j k : Nat} {z r : TRat} (hz : xs[j]? = some z) (hr : xs[k]? = some r) (vz : RatV z) (vr : RatV r) : rcmp z r = cmpOf xs k j := by
  unfold rcmp cmpOf keyOf
  rw [ratOkB_iff.2 vz, ratOkB_iff.2 vr]
  simp [List.getD_eq_getElem?_getD, hz, hr]

theorem cut_at {S : List Int} {p q : Int → Prop} {a : Nat} (ha : a ≤ S.length) (h1 : ∀ y, 0 < a → S[a - 1]? = some y → p y) (h2 : ∀ y, S[a]? = some y → q y) : ∃ S1 S2, S = S1 ++ S2 ∧ S1.length = a ∧ (∀ y, 0 < S1.length → S1[S1.length - 1]? = some y → p y) ∧ (∀ y, S2[0]? = some y → q y) := by
  have hl : (S.take a).length = a := by simp; omega
  refine ⟨S.take a, S.drop a, (List.take_append_drop a S).symm, hl, fun y h0 hy => ?_, fun y hy => h2 y (by simpa using hy)⟩
  rw [hl] at h0 hy
  refine h1 y h0 ?_
  rwa [List.getElem?_take_of_lt (by omega)] at hy

end Go.Proofs.YtleegelljgnlpaaGreat.X
