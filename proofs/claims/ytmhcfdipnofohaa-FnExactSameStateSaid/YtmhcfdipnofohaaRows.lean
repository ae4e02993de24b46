/-
  No cell of these rows narrows 'for every input' (looked for: loops, veiled, ifaces, maps, wideKeys, modest, calm, conditions, laid).
  DERIVED. THE GIVEN ROWS OF THIS SEAT. 3 by the template 'for every input the law returns true; each argument reads behind the call as it read before'; 0 by the template 'total and deterministic' (their statements: YtmhcfdipnofohaaTotals.lean).
  GIVEN WITH THE SEED: the statements are not yours to turn. If you find one false, say at which input.
  Laid BY PROGRAM, IN A SANDBOX (cutbox-rows.mjs): the forced cells as the released guide's own fill.sh prints them over the translation 5ff2875ee80b01ed… (all of the seat's roots in one cut). By AI agents, Wed Nov 11 2026. No macro, syntax, notation, axiom, sorry.
-/
import Derived.Test.YtmhcfdipnofohaaChecked
import GoSem.Claim
import GoSem.ClaimJoined
import GoSem.ClaimMapViews
import Derived.JoinedTies
import Derived.KernelRfl
namespace Go.Proofs.Ytmhcfdipnofohaa
/- THE CELL 'sum', in the pinned program and in every row, IS THE sha256 OF THE DUMP (.gsa) THAT YtmhcfdipnofohaaProg.lean LOADS. Nothing in Lean hashes anything: it is a label: what it is worth is what the hold of that sum in a sandbox is worth. -/
noncomputable def Try.pinned : Pinned := { name := "ytmhcfdipnofohaa", sum := "5ff2875ee80b01ed99c8a20e2f6234e287bf69af750aac1658c3fc09c51b1de0", checked := Try.checked }
namespace Rows
def none {H : Type} : Left H := { results := [], args := [] }

/-- 'laws.FnExactSumOfText': WHATEVER THE INPUT: true; the input reads as it did. -/
def fnExactSumOfTextSpec : ChangeSpec := { name := "fnExactSumOfText", fn := fun _ => fun
  | [d] => { results := [.lit (.bool true)], args := [d] }
  | _ => none }
def fnExactSumOfTextRow : OpenClaim := { program := "ytmhcfdipnofohaa", sum := "5ff2875ee80b01ed99c8a20e2f6234e287bf69af750aac1658c3fc09c51b1de0", func := "loop.example/g00812/laws.FnExactSumOfText", spec := "fnExactSumOfText", apart := false }
def FnExactSumOfTextSaid : Prop := fnExactSumOfTextRow.holds Try.pinned (OpenSpec.ofChange fnExactSumOfTextSpec)

/-- ITS FALSE NEIGHBOUR: 'it returns false'. Refute it at one input. -/
def fnExactSumOfTextWrong : ChangeSpec := { name := "fnExactSumOfText", fn := fun _ => fun
  | [d] => { results := [.lit (.bool false)], args := [d] }
  | _ => none }
def FnExactSumOfTextWrongFalsely : Prop := fnExactSumOfTextRow.holds Try.pinned (OpenSpec.ofChange fnExactSumOfTextWrong)

/-- 'laws.FnExactSameReport': WHATEVER THE INPUT: true; the input reads as it did. -/
def fnExactSameReportSpec : ChangeSpec := { name := "fnExactSameReport", fn := fun _ => fun
  | [d1, d2] => { results := [.lit (.bool true)], args := [d1, d2] }
  | _ => none }
def fnExactSameReportRow : OpenClaim := { program := "ytmhcfdipnofohaa", sum := "5ff2875ee80b01ed99c8a20e2f6234e287bf69af750aac1658c3fc09c51b1de0", func := "loop.example/g00812/laws.FnExactSameReport", spec := "fnExactSameReport", apart := false }
def FnExactSameReportSaid : Prop := fnExactSameReportRow.holds Try.pinned (OpenSpec.ofChange fnExactSameReportSpec)

/-- ITS FALSE NEIGHBOUR: 'it returns false'. Refute it at one input. -/
def fnExactSameReportWrong : ChangeSpec := { name := "fnExactSameReport", fn := fun _ => fun
  | [d1, d2] => { results := [.lit (.bool false)], args := [d1, d2] }
  | _ => none }
def FnExactSameReportWrongFalsely : Prop := fnExactSameReportRow.holds Try.pinned (OpenSpec.ofChange fnExactSameReportWrong)

/-- 'laws.FnExactSameState': WHATEVER THE INPUT: true; the input reads as it did. -/
def fnExactSameStateSpec : ChangeSpec := { name := "fnExactSameState", fn := fun _ => fun
  | [d1, d2] => { results := [.lit (.bool true)], args := [d1, d2] }
  | _ => none }
def fnExactSameStateRow : OpenClaim := { program := "ytmhcfdipnofohaa", sum := "5ff2875ee80b01ed99c8a20e2f6234e287bf69af750aac1658c3fc09c51b1de0", func := "loop.example/g00812/laws.FnExactSameState", spec := "fnExactSameState", unfollowed := true, recurses := true, apart := false }
def FnExactSameStateSaid : Prop := fnExactSameStateRow.holds Try.pinned (OpenSpec.ofChange fnExactSameStateSpec)

/-- ITS FALSE NEIGHBOUR: 'it returns false'. Refute it at one input. -/
def fnExactSameStateWrong : ChangeSpec := { name := "fnExactSameState", fn := fun _ => fun
  | [d1, d2] => { results := [.lit (.bool false)], args := [d1, d2] }
  | _ => none }
def FnExactSameStateWrongFalsely : Prop := fnExactSameStateRow.holds Try.pinned (OpenSpec.ofChange fnExactSameStateWrong)

/- THE SECOND FORM. 'bulk': how many values and letters a reading holds, each counted each time it is reached (what is shared counts as often as it is met; a slice's spare places count too). A statement '..UptoSaid' is the law's where the arguments, and the package variables that the reading takes, are together of bulk at most 1048576: NARROWER than '..Said'. Prove '..Said' where nothing that the law and all that it calls make is longer than what came in: it says more and counts as full. Else prove '..UptoSaid'. A law counts once. -/
mutual
def uptoBulk {H : Type} : DataW H → Nat
  | .lit (.string bytes) => bytes.length + 1
  | .lit _ => 1
  | .nil => 1
  | .ptr d => uptoBulk d + 1
  | .slice elems spare => uptoBulkAll elems + uptoBulkAll spare + 1
  | .agg parts => uptoBulkAll parts + 1
  | .iface _ d => uptoBulk d + 1
  | .map entries => uptoBulkEntries entries + 1
  | .held _ => 1
def uptoBulkAll {H : Type} : List (DataW H) → Nat
  | [] => 0
  | d :: r => uptoBulk d + uptoBulkAll r
def uptoBulkEntries {H : Type} : List (Lit × DataW H) → Nat
  | [] => 0
  | x :: r => uptoBulkEntry x + uptoBulkEntries r
def uptoBulkEntry {H : Type} : Lit × DataW H → Nat
  | (.string bytes, d) => bytes.length + uptoBulk d + 1
  | (_, d) => uptoBulk d + 1
 end
def uptoSmall : (H : Type) → List (DataW H) → Bool := fun _ ds => decide (uptoBulkAll ds ≤ 1048576)
def OpenSpec.upto (s : _root_.Go.ChangeSpec) : _root_.Go.OpenSpec := { _root_.Go.OpenSpec.ofChange s with cond := some uptoSmall }

/-- 'laws.FnExactSumOfText', WHERE WHAT IT READS IS OF BULK AT MOST 1048576: true; the input reads as it did. -/
def fnExactSumOfTextUptoRow : OpenClaim := { program := "ytmhcfdipnofohaa", sum := "5ff2875ee80b01ed99c8a20e2f6234e287bf69af750aac1658c3fc09c51b1de0", func := "loop.example/g00812/laws.FnExactSumOfText", spec := "fnExactSumOfText", apart := false, narrowed := true }
def FnExactSumOfTextUptoSaid : Prop := fnExactSumOfTextUptoRow.holds Try.pinned (OpenSpec.upto fnExactSumOfTextSpec)

/-- 'laws.FnExactSameReport', WHERE WHAT IT READS IS OF BULK AT MOST 1048576: true; the input reads as it did. -/
def fnExactSameReportUptoRow : OpenClaim := { program := "ytmhcfdipnofohaa", sum := "5ff2875ee80b01ed99c8a20e2f6234e287bf69af750aac1658c3fc09c51b1de0", func := "loop.example/g00812/laws.FnExactSameReport", spec := "fnExactSameReport", apart := false, narrowed := true }
def FnExactSameReportUptoSaid : Prop := fnExactSameReportUptoRow.holds Try.pinned (OpenSpec.upto fnExactSameReportSpec)

/-- 'laws.FnExactSameState', WHERE WHAT IT READS IS OF BULK AT MOST 1048576: true; the input reads as it did. -/
def fnExactSameStateUptoRow : OpenClaim := { program := "ytmhcfdipnofohaa", sum := "5ff2875ee80b01ed99c8a20e2f6234e287bf69af750aac1658c3fc09c51b1de0", func := "loop.example/g00812/laws.FnExactSameState", spec := "fnExactSameState", unfollowed := true, recurses := true, apart := false, narrowed := true }
def FnExactSameStateUptoSaid : Prop := fnExactSameStateUptoRow.holds Try.pinned (OpenSpec.upto fnExactSameStateSpec)

end Rows
end Go.Proofs.Ytmhcfdipnofohaa
