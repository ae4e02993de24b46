/-
  DERIVED. GIVEN WITH THE SEED: THE CARDS: each row of YthlpjpcnpcclhaaDoorRows.lean that lists a variable, with what it lists TIED to the program's text (the seventh form; the later family's looks); each row that meets fmt, with fmt's text TOLD by the authors' own Lean function (tested against real Go, not proved from fmt's source: count such statements apart). THE CARD IS WHAT COUNTS. Prove the row's statement (the work); the ties are given (YthlpjpcnpcclhaaDoorTie.lean); close each card by the builder's one call (the guide's Derived/Test/ToyasCard.lean, 'card_holds'). Laid BY PROGRAM, IN A SANDBOX (cutbox-door.mjs). By AI agents, Wed Nov 11 2026. No macro, syntax, notation, axiom, sorry.
-/
import Derived.Test.YthlpjpcnpcclhaaDoorRows
import GoSem.ClaimSeven
namespace Go.Proofs.YthlpjpcnpcclhaaDoor
namespace Rows

/-- THE TIED CARD OF 'laws.FnExactFormatGoal'. -/
def fnExactFormatGoalCard : Claim7 := { stood := { row := fnExactFormatGoalRow, standIns := [], harness := (true, "05579bebf73ffe55ae0ccf803bfeb8f62d548c27d2f0cd722a1493e8fdcb4f35"), looks := false }, kinds := [], alts := [], laidByText := true, laidKinds := [.data, .data, .data], laidTests := true, laidLooks := .later }
def FnExactFormatGoalCardSaid : Prop := Claim7.holds Tryd.pinned (.plain (OpenSpec.ofChange fnExactFormatGoalSpec)) fnExactFormatGoalCard

/-- THE TIED CARD OF 'laws.FnExactFormatReport'. -/
def fnExactFormatReportCard : Claim7 := { stood := { row := fnExactFormatReportRow, standIns := [], harness := (true, "05579bebf73ffe55ae0ccf803bfeb8f62d548c27d2f0cd722a1493e8fdcb4f35"), looks := false }, kinds := [], alts := [], laidByText := true, laidKinds := [.data, .data, .data], laidTests := true, laidLooks := .later }
def FnExactFormatReportCardSaid : Prop := Claim7.holds Tryd.pinned (.plain (OpenSpec.ofChange fnExactFormatReportSpec)) fnExactFormatReportCard

/-- THE SECOND FORM's CARD OF 'laws.FnExactFormatGoal'. -/
def fnExactFormatGoalUptoCard : Claim7 := { stood := { row := fnExactFormatGoalUptoRow, standIns := [], harness := (true, "05579bebf73ffe55ae0ccf803bfeb8f62d548c27d2f0cd722a1493e8fdcb4f35"), looks := false }, kinds := [], alts := [], laidByText := true, laidKinds := [.data, .data, .data], laidTests := true, laidLooks := .later }
def FnExactFormatGoalUptoCardSaid : Prop := Claim7.holds Tryd.pinned (.plain (OpenSpec.upto fnExactFormatGoalSpec)) fnExactFormatGoalUptoCard

/-- THE SECOND FORM's CARD OF 'laws.FnExactFormatReport'. -/
def fnExactFormatReportUptoCard : Claim7 := { stood := { row := fnExactFormatReportUptoRow, standIns := [], harness := (true, "05579bebf73ffe55ae0ccf803bfeb8f62d548c27d2f0cd722a1493e8fdcb4f35"), looks := false }, kinds := [], alts := [], laidByText := true, laidKinds := [.data, .data, .data], laidTests := true, laidLooks := .later }
def FnExactFormatReportUptoCardSaid : Prop := Claim7.holds Tryd.pinned (.plain (OpenSpec.upto fnExactFormatReportSpec)) fnExactFormatReportUptoCard
end Rows
end Go.Proofs.YthlpjpcnpcclhaaDoor
