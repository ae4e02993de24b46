/- A part of the proof. -/
import Derived.JoinedOf
import Derived.KernelRfl
import Derived.Test.YtbkilakncnlebaaGreatDoorRows
set_option linter.constructorNameAsVariable false
set_option maxHeartbeats 16000000
set_option maxRecDepth 10000
namespace Go.Proofs.YtbkilakncnlebaaGreatDoor.X
open Go Proofs.Tryz
theorem F6g:Tryz.pinned.checked.prog.funcNamed Rows.fnStatesRow.func=some 3:=by kernel_rfl
theorem F7c:joinedFacts Tryz.pinned.checked.prog 3 Tryz.f3 Rows.fnStatesSpec Rows.fnStatesRow=true:=by kernel_rfl
theorem F7k:Tryz.f3.isInstance Tryz.pinned.checked.prog Rows.fnStatesRow.origin Rows.fnStatesRow.targs:=of_decide_eq_true (by kernel_rfl)
theorem F7g:Tryz.f3.isWrapper Tryz.pinned.checked.prog Rows.fnStatesRow.wrapper Rows.fnStatesRow.mainSum:=by
 unfold Func.isWrapper;first|(rw[if_pos (by decide +kernel)];kernel_rfl)|(rw[if_neg (by decide +kernel)];exact⟨rfl,rfl⟩)
end Go.Proofs.YtbkilakncnlebaaGreatDoor.X
