/- How many ints and elements the data hold, as the laws count them; laws.szIntS. -/
import Derived.Test.YtmhcfdipnofohaaRows
import Derived.Test.YtmhcfdipnofohaaXLib
import Derived.WalkLawsBesides
import Derived.ProofKit
namespace Go.XB
def cntL {α : Type} (f : α → Nat) (l : List α) : Nat := l.length + (l.map f).sum
def TBigInt.cnt (x : TBigInt) : Nat := x.mag.length
def TRat.cnt (x : TRat) : Nat := x.num.cnt + x.den.length
def TPoint.cnt (x : TPoint) : Nat := x.x.cnt + x.y.cnt
def TMesh.cnt (x : TMesh) : Nat := cntL TPoint.cnt x.points + x.triangles.length
def TProblem.cnt (x : TProblem) : Nat := x.mesh.cnt + cntL TRat.cnt x.diffusion + cntL TRat.cnt x.source
def TGoal.cnt (x : TGoal) : Nat := x.value.cnt + x.square.cnt
def TReport.cnt (x : TReport) : Nat := x.energy.cnt + x.bound.cnt
def TState.cnt (x : TState) : Nat := x.problem.cnt + x.part.cnt + cntL TReport.cnt x.reports
end Go.XB
namespace Go.Proofs.Ytmhcfdipnofohaa.X
open Go.RowKit Go.XB
set_option maxHeartbeats 400000 in
theorem laws_szIntS (A : Option Addr) (n c : Nat) (xs : List Int) (bs : List Nat) (left : Int) (w : World) (hx : Sl w A n c xs bs) (h0 : 0 ≤ left) (h1 : left ≤ 1048576) :
    Calls Try.prog 33 #[.slice A n c, .int .i64 left] w (Gives w (.int .i64 (minus left xs.length))) := by
  have hn : n ≤ maxLen := Nat.le_trans hx.2.1 hx.2.2.1
  unfold maxLen at hn
  have HL := hid hx.1
  clear hx
  by_cases h : left - n < 0
  · go_enter Try.func33, Try.ntmps33
    go_wp2
    go_ret
    exact ⟨by rw [HL.out]; exact ret_int (by unfold minus; rw [if_pos (by assumption)]), Below.refl _ _⟩
  · go_enter Try.func33, Try.ntmps33
    go_wp2
    go_ret
    exact ⟨by rw [HL.out]; exact ret_int (by unfold minus; rw [if_neg (by omega)]), Below.refl _ _⟩
set_option maxHeartbeats 400000 in
theorem laws_szTriS (A : Option Addr) (n c : Nat) (xs : List TTri) (bs : List Nat) (left : Int) (w : World) (hx : Sl w A n c xs bs) (h0 : 0 ≤ left) (h1 : left ≤ 1048576) :
    Calls Try.prog 51 #[.slice A n c, .int .i64 left] w (Gives w (.int .i64 (minus left xs.length))) := by
  have hn : n ≤ maxLen := Nat.le_trans hx.2.1 hx.2.2.1
  unfold maxLen at hn
  have HL := hid hx.1
  clear hx
  by_cases h : left - n < 0
  · go_enter Try.func51, Try.ntmps51
    go_wp2
    go_ret
    exact ⟨by rw [HL.out]; exact ret_int (by unfold minus; rw [if_pos (by assumption)]), Below.refl _ _⟩
  · go_enter Try.func51, Try.ntmps51
    go_wp2
    go_ret
    exact ⟨by rw [HL.out]; exact ret_int (by unfold minus; rw [if_neg (by omega)]), Below.refl _ _⟩
end Go.Proofs.Ytmhcfdipnofohaa.X
