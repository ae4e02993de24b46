/-
  No cell of these rows narrows 'for every input' (looked for: loops, veiled, ifaces, maps, wideKeys, modest, calm, conditions, laid).
  DERIVED. THE GIVEN ROWS OF THIS SEAT. 2 by the template 'for every input the law returns true; each argument reads behind the call as it read before'; 0 by the template 'total and deterministic' (their statements: YtpfipnankjeokaaGreatTotals.lean).
  GIVEN WITH THE SEED: the statements are not yours to turn. If you find one false, say at which input.
  Laid BY PROGRAM, IN A SANDBOX (cutbox-rows.mjs): the forced cells as the released guide's own fill.sh prints them over the translation 99f245931be5c87c… (all of the seat's roots in one cut). By AI agents, Wed Nov 11 2026. No macro, syntax, notation, axiom, sorry.
-/
import Derived.Test.YtpfipnankjeokaaGreatChecked
import GoSem.Claim
import GoSem.ClaimJoined
import GoSem.ClaimMapViews
import Derived.JoinedTies
import Derived.KernelRfl
namespace Go.Proofs.YtpfipnankjeokaaGreat
/- THE CELL 'sum', in the pinned program and in every row, IS THE sha256 OF THE DUMP (.gsa) THAT YtpfipnankjeokaaGreatProg.lean LOADS. Nothing in Lean hashes anything: it is a label: what it is worth is what the hold of that sum in a sandbox is worth. -/
noncomputable def Tryz.pinned : Pinned := { name := "ytpfipnankjeokaagreat", sum := "99f245931be5c87ccd2434ee26a8b07e65e6bb32860e5b20519cbc5cbd6a2035", checked := Tryz.checked }
namespace Rows
def none {H : Type} : Left H := { results := [], args := [] }

/-- 'laws.FnFields': WHATEVER THE INPUT: true; the input reads as it did. -/
def fnFieldsSpec : ChangeSpec := { name := "fnFields", fn := fun _ => fun
  | [d] => { results := [.lit (.bool true)], args := [d] }
  | _ => none }
def fnFieldsRow : OpenClaim := { program := "ytpfipnankjeokaagreat", sum := "99f245931be5c87ccd2434ee26a8b07e65e6bb32860e5b20519cbc5cbd6a2035", func := "loop.example/g00812/laws.FnFields", spec := "fnFields", inPlace := ["slices.overlaps[loop.example/g00812/impl.Edge]"], unfollowed := true, recurses := true, apart := false }
def FnFieldsSaid : Prop := fnFieldsRow.holds Tryz.pinned (OpenSpec.ofChange fnFieldsSpec)

/-- ITS FALSE NEIGHBOUR: 'it returns false'. Refute it at one input. -/
def fnFieldsWrong : ChangeSpec := { name := "fnFields", fn := fun _ => fun
  | [d] => { results := [.lit (.bool false)], args := [d] }
  | _ => none }
def FnFieldsWrongFalsely : Prop := fnFieldsRow.holds Tryz.pinned (OpenSpec.ofChange fnFieldsWrong)

/-- 'laws.FnHeatRun': WHATEVER THE INPUT: true; the input reads as it did. -/
def fnHeatRunSpec : ChangeSpec := { name := "fnHeatRun", fn := fun _ => fun
  | [d] => { results := [.lit (.bool true)], args := [d] }
  | _ => none }
def fnHeatRunRow : OpenClaim := { program := "ytpfipnankjeokaagreat", sum := "99f245931be5c87ccd2434ee26a8b07e65e6bb32860e5b20519cbc5cbd6a2035", func := "loop.example/g00812/laws.FnHeatRun", spec := "fnHeatRun", inPlace := ["slices.overlaps[loop.example/g00812/impl.Edge]"], unfollowed := true, recurses := true, apart := false }
def FnHeatRunSaid : Prop := fnHeatRunRow.holds Tryz.pinned (OpenSpec.ofChange fnHeatRunSpec)

/-- ITS FALSE NEIGHBOUR: 'it returns false'. Refute it at one input. -/
def fnHeatRunWrong : ChangeSpec := { name := "fnHeatRun", fn := fun _ => fun
  | [d] => { results := [.lit (.bool false)], args := [d] }
  | _ => none }
def FnHeatRunWrongFalsely : Prop := fnHeatRunRow.holds Tryz.pinned (OpenSpec.ofChange fnHeatRunWrong)

/- THE SECOND FORM. 'bulk': how many values and letters a reading holds, each counted each time it is reached (what is shared counts as often as it is met; a slice's spare places count too). A statement '..UptoSaid' is the law's where the arguments, and the package variables that the reading takes, are together of bulk at most 1048576: NARROWER than '..Said'. Prove '..Said' where nothing that the law and all that it calls make is longer than what came in: it says more and counts as full. Else prove '..UptoSaid'. A law counts once. -/
mutual
def uptoBulk {H : Type} : DataW H → Nat
  | .lit (.string bytes) => bytes.length + 1
  | .lit _ => 1
  | .nil => 1
  | .ptr d => uptoBulk d + 1
  | .slice elems spare => uptoBulkAll elems + uptoBulkAll spare + 1
  | .agg parts => uptoBulkAll parts + 1
  | .iface _ d => uptoBulk d + 1
  | .map entries => uptoBulkEntries entries + 1
  | .held _ => 1
def uptoBulkAll {H : Type} : List (DataW H) → Nat
  | [] => 0
  | d :: r => uptoBulk d + uptoBulkAll r
def uptoBulkEntries {H : Type} : List (Lit × DataW H) → Nat
  | [] => 0
  | x :: r => uptoBulkEntry x + uptoBulkEntries r
def uptoBulkEntry {H : Type} : Lit × DataW H → Nat
  | (.string bytes, d) => bytes.length + uptoBulk d + 1
  | (_, d) => uptoBulk d + 1
 end
def uptoSmall : (H : Type) → List (DataW H) → Bool := fun _ ds => decide (uptoBulkAll ds ≤ 1048576)
def OpenSpec.upto (s : _root_.Go.ChangeSpec) : _root_.Go.OpenSpec := { _root_.Go.OpenSpec.ofChange s with cond := some uptoSmall }

/-- 'laws.FnFields', WHERE WHAT IT READS IS OF BULK AT MOST 1048576: true; the input reads as it did. -/
def fnFieldsUptoRow : OpenClaim := { program := "ytpfipnankjeokaagreat", sum := "99f245931be5c87ccd2434ee26a8b07e65e6bb32860e5b20519cbc5cbd6a2035", func := "loop.example/g00812/laws.FnFields", spec := "fnFields", inPlace := ["slices.overlaps[loop.example/g00812/impl.Edge]"], unfollowed := true, recurses := true, apart := false, narrowed := true }
def FnFieldsUptoSaid : Prop := fnFieldsUptoRow.holds Tryz.pinned (OpenSpec.upto fnFieldsSpec)

/-- 'laws.FnHeatRun', WHERE WHAT IT READS IS OF BULK AT MOST 1048576: true; the input reads as it did. -/
def fnHeatRunUptoRow : OpenClaim := { program := "ytpfipnankjeokaagreat", sum := "99f245931be5c87ccd2434ee26a8b07e65e6bb32860e5b20519cbc5cbd6a2035", func := "loop.example/g00812/laws.FnHeatRun", spec := "fnHeatRun", inPlace := ["slices.overlaps[loop.example/g00812/impl.Edge]"], unfollowed := true, recurses := true, apart := false, narrowed := true }
def FnHeatRunUptoSaid : Prop := fnHeatRunUptoRow.holds Tryz.pinned (OpenSpec.upto fnHeatRunSpec)

end Rows
end Go.Proofs.YtpfipnankjeokaaGreat
