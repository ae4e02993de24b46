/-
  No cell of these rows narrows 'for every input' (looked for: loops, veiled, ifaces, maps, wideKeys, modest, calm, conditions, laid).
  DERIVED. THE GIVEN ROWS OF THIS SEAT. 8 by the template 'for every input the law returns true; each argument reads behind the call as it read before'; 0 by the template 'total and deterministic' (their statements: YthlpjpcnpcclhaaTotals.lean).
  GIVEN WITH THE SEED: the statements are not yours to turn. If you find one false, say at which input.
  Laid BY PROGRAM, IN A SANDBOX (cutbox-rows.mjs): the forced cells as the released guide's own fill.sh prints them over the translation 008aa5dad148928f… (all of the seat's roots in one cut). By AI agents, Wed Nov 11 2026. No macro, syntax, notation, axiom, sorry.
-/
import Derived.Test.YthlpjpcnpcclhaaChecked
import GoSem.Claim
import GoSem.ClaimJoined
import GoSem.ClaimMapViews
import Derived.JoinedTies
import Derived.KernelRfl
namespace Go.Proofs.Ythlpjpcnpcclhaa
/- THE CELL 'sum', in the pinned program and in every row, IS THE sha256 OF THE DUMP (.gsa) THAT YthlpjpcnpcclhaaProg.lean LOADS. Nothing in Lean hashes anything: it is a label: what it is worth is what the hold of that sum in a sandbox is worth. -/
noncomputable def Try.pinned : Pinned := { name := "ythlpjpcnpcclhaa", sum := "008aa5dad148928f15e76d522a18b9f6ad0ff263ed39ed31843cce8405bf00d2", checked := Try.checked }
namespace Rows
def none {H : Type} : Left H := { results := [], args := [] }

/-- 'laws.FnExactRangeOf': WHATEVER THE INPUT: true; the input reads as it did. -/
def fnExactRangeOfSpec : ChangeSpec := { name := "fnExactRangeOf", fn := fun _ => fun
  | [d] => { results := [.lit (.bool true)], args := [d] }
  | _ => none }
def fnExactRangeOfRow : OpenClaim := { program := "ythlpjpcnpcclhaa", sum := "008aa5dad148928f15e76d522a18b9f6ad0ff263ed39ed31843cce8405bf00d2", func := "loop.example/g00812/laws.FnExactRangeOf", spec := "fnExactRangeOf", unfollowed := true, recurses := true, apart := false }
def FnExactRangeOfSaid : Prop := fnExactRangeOfRow.holds Try.pinned (OpenSpec.ofChange fnExactRangeOfSpec)

/-- ITS FALSE NEIGHBOUR: 'it returns false'. Refute it at one input. -/
def fnExactRangeOfWrong : ChangeSpec := { name := "fnExactRangeOf", fn := fun _ => fun
  | [d] => { results := [.lit (.bool false)], args := [d] }
  | _ => none }
def FnExactRangeOfWrongFalsely : Prop := fnExactRangeOfRow.holds Try.pinned (OpenSpec.ofChange fnExactRangeOfWrong)

/-- 'laws.FnExactGoalHolds': WHATEVER THE INPUT: true; the input reads as it did. -/
def fnExactGoalHoldsSpec : ChangeSpec := { name := "fnExactGoalHolds", fn := fun _ => fun
  | [d1, d2] => { results := [.lit (.bool true)], args := [d1, d2] }
  | _ => none }
def fnExactGoalHoldsRow : OpenClaim := { program := "ythlpjpcnpcclhaa", sum := "008aa5dad148928f15e76d522a18b9f6ad0ff263ed39ed31843cce8405bf00d2", func := "loop.example/g00812/laws.FnExactGoalHolds", spec := "fnExactGoalHolds", unfollowed := true, recurses := true, apart := false }
def FnExactGoalHoldsSaid : Prop := fnExactGoalHoldsRow.holds Try.pinned (OpenSpec.ofChange fnExactGoalHoldsSpec)

/-- ITS FALSE NEIGHBOUR: 'it returns false'. Refute it at one input. -/
def fnExactGoalHoldsWrong : ChangeSpec := { name := "fnExactGoalHolds", fn := fun _ => fun
  | [d1, d2] => { results := [.lit (.bool false)], args := [d1, d2] }
  | _ => none }
def FnExactGoalHoldsWrongFalsely : Prop := fnExactGoalHoldsRow.holds Try.pinned (OpenSpec.ofChange fnExactGoalHoldsWrong)

/-- 'laws.FnExactSumOf': WHATEVER THE INPUT: true; the input reads as it did. -/
def fnExactSumOfSpec : ChangeSpec := { name := "fnExactSumOf", fn := fun _ => fun
  | [d] => { results := [.lit (.bool true)], args := [d] }
  | _ => none }
def fnExactSumOfRow : OpenClaim := { program := "ythlpjpcnpcclhaa", sum := "008aa5dad148928f15e76d522a18b9f6ad0ff263ed39ed31843cce8405bf00d2", func := "loop.example/g00812/laws.FnExactSumOf", spec := "fnExactSumOf", unfollowed := true, recurses := true, apart := false }
def FnExactSumOfSaid : Prop := fnExactSumOfRow.holds Try.pinned (OpenSpec.ofChange fnExactSumOfSpec)

/-- ITS FALSE NEIGHBOUR: 'it returns false'. Refute it at one input. -/
def fnExactSumOfWrong : ChangeSpec := { name := "fnExactSumOf", fn := fun _ => fun
  | [d] => { results := [.lit (.bool false)], args := [d] }
  | _ => none }
def FnExactSumOfWrongFalsely : Prop := fnExactSumOfRow.holds Try.pinned (OpenSpec.ofChange fnExactSumOfWrong)

/-- 'laws.FnExactGreatestOf': WHATEVER THE INPUT: true; the input reads as it did. -/
def fnExactGreatestOfSpec : ChangeSpec := { name := "fnExactGreatestOf", fn := fun _ => fun
  | [d] => { results := [.lit (.bool true)], args := [d] }
  | _ => none }
def fnExactGreatestOfRow : OpenClaim := { program := "ythlpjpcnpcclhaa", sum := "008aa5dad148928f15e76d522a18b9f6ad0ff263ed39ed31843cce8405bf00d2", func := "loop.example/g00812/laws.FnExactGreatestOf", spec := "fnExactGreatestOf", unfollowed := true, recurses := true, apart := false }
def FnExactGreatestOfSaid : Prop := fnExactGreatestOfRow.holds Try.pinned (OpenSpec.ofChange fnExactGreatestOfSpec)

/-- ITS FALSE NEIGHBOUR: 'it returns false'. Refute it at one input. -/
def fnExactGreatestOfWrong : ChangeSpec := { name := "fnExactGreatestOf", fn := fun _ => fun
  | [d] => { results := [.lit (.bool false)], args := [d] }
  | _ => none }
def FnExactGreatestOfWrongFalsely : Prop := fnExactGreatestOfRow.holds Try.pinned (OpenSpec.ofChange fnExactGreatestOfWrong)

/-- 'laws.FnExactOrderOf': WHATEVER THE INPUT: true; the input reads as it did. -/
def fnExactOrderOfSpec : ChangeSpec := { name := "fnExactOrderOf", fn := fun _ => fun
  | [d] => { results := [.lit (.bool true)], args := [d] }
  | _ => none }
def fnExactOrderOfRow : OpenClaim := { program := "ythlpjpcnpcclhaa", sum := "008aa5dad148928f15e76d522a18b9f6ad0ff263ed39ed31843cce8405bf00d2", func := "loop.example/g00812/laws.FnExactOrderOf", spec := "fnExactOrderOf", unfollowed := true, recurses := true, apart := false }
def FnExactOrderOfSaid : Prop := fnExactOrderOfRow.holds Try.pinned (OpenSpec.ofChange fnExactOrderOfSpec)

/-- ITS FALSE NEIGHBOUR: 'it returns false'. Refute it at one input. -/
def fnExactOrderOfWrong : ChangeSpec := { name := "fnExactOrderOf", fn := fun _ => fun
  | [d] => { results := [.lit (.bool false)], args := [d] }
  | _ => none }
def FnExactOrderOfWrongFalsely : Prop := fnExactOrderOfRow.holds Try.pinned (OpenSpec.ofChange fnExactOrderOfWrong)

/-- 'laws.FnExactGoalsMeet': WHATEVER THE INPUT: true; the input reads as it did. -/
def fnExactGoalsMeetSpec : ChangeSpec := { name := "fnExactGoalsMeet", fn := fun _ => fun
  | [d1, d2] => { results := [.lit (.bool true)], args := [d1, d2] }
  | _ => none }
def fnExactGoalsMeetRow : OpenClaim := { program := "ythlpjpcnpcclhaa", sum := "008aa5dad148928f15e76d522a18b9f6ad0ff263ed39ed31843cce8405bf00d2", func := "loop.example/g00812/laws.FnExactGoalsMeet", spec := "fnExactGoalsMeet", unfollowed := true, recurses := true, apart := false }
def FnExactGoalsMeetSaid : Prop := fnExactGoalsMeetRow.holds Try.pinned (OpenSpec.ofChange fnExactGoalsMeetSpec)

/-- ITS FALSE NEIGHBOUR: 'it returns false'. Refute it at one input. -/
def fnExactGoalsMeetWrong : ChangeSpec := { name := "fnExactGoalsMeet", fn := fun _ => fun
  | [d1, d2] => { results := [.lit (.bool false)], args := [d1, d2] }
  | _ => none }
def FnExactGoalsMeetWrongFalsely : Prop := fnExactGoalsMeetRow.holds Try.pinned (OpenSpec.ofChange fnExactGoalsMeetWrong)

/-- 'laws.FnExactShadeOf': WHATEVER THE INPUT: true; the input reads as it did. -/
def fnExactShadeOfSpec : ChangeSpec := { name := "fnExactShadeOf", fn := fun _ => fun
  | [d1, d2, d3] => { results := [.lit (.bool true)], args := [d1, d2, d3] }
  | _ => none }
def fnExactShadeOfRow : OpenClaim := { program := "ythlpjpcnpcclhaa", sum := "008aa5dad148928f15e76d522a18b9f6ad0ff263ed39ed31843cce8405bf00d2", func := "loop.example/g00812/laws.FnExactShadeOf", spec := "fnExactShadeOf", unfollowed := true, recurses := true, apart := false }
def FnExactShadeOfSaid : Prop := fnExactShadeOfRow.holds Try.pinned (OpenSpec.ofChange fnExactShadeOfSpec)

/-- ITS FALSE NEIGHBOUR: 'it returns false'. Refute it at one input. -/
def fnExactShadeOfWrong : ChangeSpec := { name := "fnExactShadeOf", fn := fun _ => fun
  | [d1, d2, d3] => { results := [.lit (.bool false)], args := [d1, d2, d3] }
  | _ => none }
def FnExactShadeOfWrongFalsely : Prop := fnExactShadeOfRow.holds Try.pinned (OpenSpec.ofChange fnExactShadeOfWrong)

/-- 'laws.FnExactIsMarked': WHATEVER THE INPUT: true; the input reads as it did. -/
def fnExactIsMarkedSpec : ChangeSpec := { name := "fnExactIsMarked", fn := fun _ => fun
  | [d1, d2, d3] => { results := [.lit (.bool true)], args := [d1, d2, d3] }
  | _ => none }
def fnExactIsMarkedRow : OpenClaim := { program := "ythlpjpcnpcclhaa", sum := "008aa5dad148928f15e76d522a18b9f6ad0ff263ed39ed31843cce8405bf00d2", func := "loop.example/g00812/laws.FnExactIsMarked", spec := "fnExactIsMarked", unfollowed := true, recurses := true, apart := false }
def FnExactIsMarkedSaid : Prop := fnExactIsMarkedRow.holds Try.pinned (OpenSpec.ofChange fnExactIsMarkedSpec)

/-- ITS FALSE NEIGHBOUR: 'it returns false'. Refute it at one input. -/
def fnExactIsMarkedWrong : ChangeSpec := { name := "fnExactIsMarked", fn := fun _ => fun
  | [d1, d2, d3] => { results := [.lit (.bool false)], args := [d1, d2, d3] }
  | _ => none }
def FnExactIsMarkedWrongFalsely : Prop := fnExactIsMarkedRow.holds Try.pinned (OpenSpec.ofChange fnExactIsMarkedWrong)

/- THE SECOND FORM. 'bulk': how many values and letters a reading holds, each counted each time it is reached (what is shared counts as often as it is met; a slice's spare places count too). A statement '..UptoSaid' is the law's where the arguments, and the package variables that the reading takes, are together of bulk at most 1048576: NARROWER than '..Said'. Prove '..Said' where nothing that the law and all that it calls make is longer than what came in: it says more and counts as full. Else prove '..UptoSaid'. A law counts once. -/
mutual
def uptoBulk {H : Type} : DataW H → Nat
  | .lit (.string bytes) => bytes.length + 1
  | .lit _ => 1
  | .nil => 1
  | .ptr d => uptoBulk d + 1
  | .slice elems spare => uptoBulkAll elems + uptoBulkAll spare + 1
  | .agg parts => uptoBulkAll parts + 1
  | .iface _ d => uptoBulk d + 1
  | .map entries => uptoBulkEntries entries + 1
  | .held _ => 1
def uptoBulkAll {H : Type} : List (DataW H) → Nat
  | [] => 0
  | d :: r => uptoBulk d + uptoBulkAll r
def uptoBulkEntries {H : Type} : List (Lit × DataW H) → Nat
  | [] => 0
  | x :: r => uptoBulkEntry x + uptoBulkEntries r
def uptoBulkEntry {H : Type} : Lit × DataW H → Nat
  | (.string bytes, d) => bytes.length + uptoBulk d + 1
  | (_, d) => uptoBulk d + 1
 end
def uptoSmall : (H : Type) → List (DataW H) → Bool := fun _ ds => decide (uptoBulkAll ds ≤ 1048576)
def OpenSpec.upto (s : _root_.Go.ChangeSpec) : _root_.Go.OpenSpec := { _root_.Go.OpenSpec.ofChange s with cond := some uptoSmall }

/-- 'laws.FnExactRangeOf', WHERE WHAT IT READS IS OF BULK AT MOST 1048576: true; the input reads as it did. -/
def fnExactRangeOfUptoRow : OpenClaim := { program := "ythlpjpcnpcclhaa", sum := "008aa5dad148928f15e76d522a18b9f6ad0ff263ed39ed31843cce8405bf00d2", func := "loop.example/g00812/laws.FnExactRangeOf", spec := "fnExactRangeOf", unfollowed := true, recurses := true, apart := false, narrowed := true }
def FnExactRangeOfUptoSaid : Prop := fnExactRangeOfUptoRow.holds Try.pinned (OpenSpec.upto fnExactRangeOfSpec)

/-- 'laws.FnExactGoalHolds', WHERE WHAT IT READS IS OF BULK AT MOST 1048576: true; the input reads as it did. -/
def fnExactGoalHoldsUptoRow : OpenClaim := { program := "ythlpjpcnpcclhaa", sum := "008aa5dad148928f15e76d522a18b9f6ad0ff263ed39ed31843cce8405bf00d2", func := "loop.example/g00812/laws.FnExactGoalHolds", spec := "fnExactGoalHolds", unfollowed := true, recurses := true, apart := false, narrowed := true }
def FnExactGoalHoldsUptoSaid : Prop := fnExactGoalHoldsUptoRow.holds Try.pinned (OpenSpec.upto fnExactGoalHoldsSpec)

/-- 'laws.FnExactSumOf', WHERE WHAT IT READS IS OF BULK AT MOST 1048576: true; the input reads as it did. -/
def fnExactSumOfUptoRow : OpenClaim := { program := "ythlpjpcnpcclhaa", sum := "008aa5dad148928f15e76d522a18b9f6ad0ff263ed39ed31843cce8405bf00d2", func := "loop.example/g00812/laws.FnExactSumOf", spec := "fnExactSumOf", unfollowed := true, recurses := true, apart := false, narrowed := true }
def FnExactSumOfUptoSaid : Prop := fnExactSumOfUptoRow.holds Try.pinned (OpenSpec.upto fnExactSumOfSpec)

/-- 'laws.FnExactGreatestOf', WHERE WHAT IT READS IS OF BULK AT MOST 1048576: true; the input reads as it did. -/
def fnExactGreatestOfUptoRow : OpenClaim := { program := "ythlpjpcnpcclhaa", sum := "008aa5dad148928f15e76d522a18b9f6ad0ff263ed39ed31843cce8405bf00d2", func := "loop.example/g00812/laws.FnExactGreatestOf", spec := "fnExactGreatestOf", unfollowed := true, recurses := true, apart := false, narrowed := true }
def FnExactGreatestOfUptoSaid : Prop := fnExactGreatestOfUptoRow.holds Try.pinned (OpenSpec.upto fnExactGreatestOfSpec)

/-- 'laws.FnExactOrderOf', WHERE WHAT IT READS IS OF BULK AT MOST 1048576: true; the input reads as it did. -/
def fnExactOrderOfUptoRow : OpenClaim := { program := "ythlpjpcnpcclhaa", sum := "008aa5dad148928f15e76d522a18b9f6ad0ff263ed39ed31843cce8405bf00d2", func := "loop.example/g00812/laws.FnExactOrderOf", spec := "fnExactOrderOf", unfollowed := true, recurses := true, apart := false, narrowed := true }
def FnExactOrderOfUptoSaid : Prop := fnExactOrderOfUptoRow.holds Try.pinned (OpenSpec.upto fnExactOrderOfSpec)

/-- 'laws.FnExactGoalsMeet', WHERE WHAT IT READS IS OF BULK AT MOST 1048576: true; the input reads as it did. -/
def fnExactGoalsMeetUptoRow : OpenClaim := { program := "ythlpjpcnpcclhaa", sum := "008aa5dad148928f15e76d522a18b9f6ad0ff263ed39ed31843cce8405bf00d2", func := "loop.example/g00812/laws.FnExactGoalsMeet", spec := "fnExactGoalsMeet", unfollowed := true, recurses := true, apart := false, narrowed := true }
def FnExactGoalsMeetUptoSaid : Prop := fnExactGoalsMeetUptoRow.holds Try.pinned (OpenSpec.upto fnExactGoalsMeetSpec)

/-- 'laws.FnExactShadeOf', WHERE WHAT IT READS IS OF BULK AT MOST 1048576: true; the input reads as it did. -/
def fnExactShadeOfUptoRow : OpenClaim := { program := "ythlpjpcnpcclhaa", sum := "008aa5dad148928f15e76d522a18b9f6ad0ff263ed39ed31843cce8405bf00d2", func := "loop.example/g00812/laws.FnExactShadeOf", spec := "fnExactShadeOf", unfollowed := true, recurses := true, apart := false, narrowed := true }
def FnExactShadeOfUptoSaid : Prop := fnExactShadeOfUptoRow.holds Try.pinned (OpenSpec.upto fnExactShadeOfSpec)

/-- 'laws.FnExactIsMarked', WHERE WHAT IT READS IS OF BULK AT MOST 1048576: true; the input reads as it did. -/
def fnExactIsMarkedUptoRow : OpenClaim := { program := "ythlpjpcnpcclhaa", sum := "008aa5dad148928f15e76d522a18b9f6ad0ff263ed39ed31843cce8405bf00d2", func := "loop.example/g00812/laws.FnExactIsMarked", spec := "fnExactIsMarked", unfollowed := true, recurses := true, apart := false, narrowed := true }
def FnExactIsMarkedUptoSaid : Prop := fnExactIsMarkedUptoRow.holds Try.pinned (OpenSpec.upto fnExactIsMarkedSpec)

end Rows
end Go.Proofs.Ythlpjpcnpcclhaa
