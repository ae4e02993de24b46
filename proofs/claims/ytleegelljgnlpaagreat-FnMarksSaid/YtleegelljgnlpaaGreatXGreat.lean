/- GreatestOf, both. -/
import Derived.Test.YtleegelljgnlpaaGreatXOrder2
namespace Go.Proofs.YtleegelljgnlpaaGreat.X
open Go.RowKit Go.XB Go.XN Go.XS
attribute [local go_sem] fillBy opAt deps depOf Region.wanted yielded
attribute [local simp] deps depOf MP.eq MP.agg MP.sl Facts
set_option linter.constructorNameAsVariable false

def greatOf (xs : List TRat) : Int := (orderOf xs).headD (-1)

set_option maxHeartbeats 1000000 in
theorem impl_GreatestOf (A : Option Addr) (n c : Nat) (xs : List TRat) (bs : List Nat) (w : World) (hx : Sl w A n c xs bs) (hn : n ≤ 1048576) :
    Calls Tryz.prog 9 #[.slice A n c] w (Gives w (.int .i64 (greatOf xs))) := by
  have HX := hid hx
  clear hx
  go_enter Tryz.func9, Tryz.ntmps9
  go_wp2_with fail
  refine (impl_OrderOf A n c xs bs _ HX.out hn).mono ?_
  rintro _ w1 ⟨B, m, d, ts, rfl, ha, ho, hb⟩
  rcases Nat.eq_zero_or_pos m with h | h
  · have E := hid (show (-1 : Int) = greatOf xs by
      have h2 := ha.1
      unfold greatOf; rw [List.eq_nil_of_length_eq_zero (h2.trans h)]; rfl)
    subst h
    clear ha ho
    go_wp2
    go_ret
    exact ⟨ret_int E.out, hb⟩
  · obtain ⟨b0, o0, y, rfl, hbl, hy, hi, hc⟩ := Sl.getInt ha h
    have E := hid (show y = greatOf xs by
      unfold greatOf
      cases he : orderOf xs with
      | nil => rw [he] at hy; cases hy
      | cons z zs => rw [he] at hy; simp at hy; simp [hy])
    have hm0 : ((m : Int) == 0) = false := by simp; omega
    have hm1 : (0 : Int) < m := by omega
    have hm2 : ¬ m = 0 := by omega
    have hc' : w1.cell? ⟨b0, o0, none⟩ = some (.int .i64 y) := by simpa using hc
    clear ha ho hy hi h hc
    go_wp2
    go_ret
    exact ⟨ret_int E.out, hb⟩
end Go.Proofs.YtleegelljgnlpaaGreat.X
