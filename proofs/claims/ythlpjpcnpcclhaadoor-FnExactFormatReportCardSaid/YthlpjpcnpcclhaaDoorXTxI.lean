/- Texts of numbers: the program's FormatInt, PadZeros; slices.Backward. -/
import Derived.RangeFuncNested
import Derived.RangeFuncBound
import Derived.RangeFuncCalls
import Derived.RangeFuncLeaves
import Derived.RangeFuncBox
import Derived.Shelf.Abstract
import Derived.Shelf.RegionOpen
import Derived.WalkKit
import Derived.OwnWalkIn
import Derived.TacticsInMore
import Derived.LoopNIn
import Derived.LoopIn
import Derived.Test.YthlpjpcnpcclhaaDoorXTxS
namespace Go.Proofs.YthlpjpcnpcclhaaDoor.X
open Go.RowKit Go.Shelf Go.XB Go.XN
set_option linter.constructorNameAsVariable false

section
attribute [local go_sem] str_app str_app_nil
set_option maxHeartbeats 1000000 in
theorem impl_FormatInt (n : Int) (h0 : -9223372036854775808 ≤ n) (h1 : n ≤ 9223372036854775807) (w : World) (ht : TabOk w) :
    Calls Tryd.prog 23 #[.int .i64 n] w (Gives w (.string ⟨(Lib.itoa n).toArray⟩)) := by
  have HT := hid ht
  clear ht
  go_enter Tryd.func23, Tryd.ntmps23
  go_wp2_with fail
  refine (lib_Itoa n h0 h1 w HT.out).mono ?_
  rintro _ w1 ⟨rfl, hb1⟩
  go_wp2
  exact bodyPost_ret (results_tmp rfl _ _ _) rfl ⟨rfl, hb1⟩
theorem impl_FormatNatInt (n : Nat) (h1 : n < 1000000000) (w : World) (ht : TabOk w) :
    Calls Tryd.prog 23 #[.int .i64 n] w (Gives w (.string ⟨(Lib.decDigits n).toArray⟩)) := by
  have := impl_FormatInt n (by omega) (by omega) w ht
  rwa [show Lib.itoa (n : Int) = Lib.decDigits n by unfold Lib.itoa; rw [if_neg (by omega)]; simp] at this

set_option maxHeartbeats 1000000 in
theorem impl_PadZeros (s : List UInt8) (h9 : s.length ≤ 9) (w : World) :
    Calls Tryd.prog 57 #[.string ⟨s.toArray⟩, .int .i64 9] w (Gives w (.string ⟨(pad9 s).toArray⟩)) := by
  by_cases hl : s.length = 9
  · have E := hid (show s = pad9 s by unfold pad9; rw [hl]; rfl)
    have hle : (9 : Int) ≤ s.length := by omega
    clear hl h9
    go_enter Tryd.func57, Tryd.ntmps57
    go_wp2_with fail
    refine bodyPost_ret (results_tmp rfl _ _ _) rfl ⟨?_, Below.refl _ _⟩
    rw [← E.out]; rfl
  · have hlt : (s.length : Int) < 9 := by omega
    obtain ⟨k, hk⟩ : ∃ k : Nat, (9 : Int) - s.length = k := ⟨9 - s.length, by omega⟩
    have hk9 : k ≤ 9 := by omega
    have E := hid (show List.replicate k 48 ++ s = pad9 s by unfold pad9; rw [show 9 - s.length = k by omega])
    clear hl
    go_enter Tryd.func57, Tryd.ntmps57
    go_wp2_with fail
    refine (lib_Repeat k hk9 w).mono ?_
    rintro _ w1 ⟨rfl, hb1⟩
    go_wp2
    refine bodyPost_ret (results_tmp rfl _ _ _) rfl ⟨?_, hb1⟩
    rw [← E.out]; rfl
end
end Go.Proofs.YthlpjpcnpcclhaaDoor.X
