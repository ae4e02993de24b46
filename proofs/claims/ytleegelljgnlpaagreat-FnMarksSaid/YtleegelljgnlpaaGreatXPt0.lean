/- RatSign of the program. -/
import Derived.Test.YtleegelljgnlpaaGreatXDen
namespace Go.Proofs.YtleegelljgnlpaaGreat.X
open Go.RowKit Go.XB Go.XN
attribute [local go_sem] fillBy opAt deps depOf Region.wanted yielded
attribute [local simp] deps depOf MP.eq MP.agg MP.sl Facts
set_option linter.constructorNameAsVariable false

set_option maxHeartbeats 1000000 in
theorem impl_RatSign (v : Value) (r : TRat) (b : List Nat) (w : World) (hx : Agg w v r b) :
    Calls Tryz.prog 10 #[v] w (Gives w (.int .i64 (rsign r))) := by
  have HX := hid hx
  obtain ⟨A1, n1, c1, s1, A2, n2, c2, s2, rfl, rfl, hs1, hs2⟩ := TRat.agg hx
  clear hs1 hs2 hx
  cases hok : ratOkB r
  · have E := hid (show 0 = rsign r by unfold rsign; rw [hok]; rfl)
    have OK := hid hok
    clear hok
    go_enter Tryz.func10, Tryz.ntmps10
    go_wp2_with fail
    have C := impl_RatOk _ r _ (w.alloc (.cells #[.bool r.num.neg, .slice A1 n1 c1, .slice A2 n2 c2] 29)) (HX.out.below (Below.box _))
    rw [OK.out] at C
    refine C.mono ?_
    clear C
    rintro _ w1 ⟨rfl, hb1⟩
    go_wp2
    go_ret
    exact ⟨ret_int E.out, Below.trans (Below.box _) (hb1.mono (by simp))⟩
  have E := hid (show rsignV r = rsign r by unfold rsign; rw [hok]; rfl)
  have VR := hid (ratOkB_iff.1 hok)
  have OK := hid hok
  clear hok
  go_enter Tryz.func10, Tryz.ntmps10
  go_wp2_with fail
  have C := impl_RatOk _ r _ (w.alloc (.cells #[.bool r.num.neg, .slice A1 n1 c1, .slice A2 n2 c2] 29)) (HX.out.below (Below.box _))
  rw [OK.out] at C
  refine C.mono ?_
  clear C
  rintro _ w1 ⟨rfl, hb1⟩
  obtain ⟨hc_w1, hf_w1⟩ := bcell hb1
  have hz0_w1 : w.heap.size < w1.heap.size := by have := hb1.size; (try simp at this); omega
  go_wp2_with fail
  refine (impl_sign _ r _ w1 ((HX.out.below (Below.box _)).below hb1) VR.out.mag (negOk_of VR.out.num)).mono ?_
  rintro _ w2 ⟨rfl, hb2⟩
  go_wp2
  go_ret
  exact ⟨ret_int E.out, Below.next (Below.trans (Below.box _) (hb1.mono (by simp))) hb2⟩

end Go.Proofs.YtleegelljgnlpaaGreat.X
