/-
  DERIVED. GIVEN WITH THE SEED: THE CARDS: each row of YteifdelnahccjaaGreatDoorRows.lean that lists a variable, with what it lists TIED to the program's text (the seventh form; the later family's looks); each row that meets fmt, with fmt's text TOLD by the authors' own Lean function (tested against real Go, not proved from fmt's source: count such statements apart). THE CARD IS WHAT COUNTS. Prove the row's statement (the work); the ties are given (YteifdelnahccjaaGreatDoorTie.lean); close each card by the builder's one call (the guide's Derived/Test/ToyasCard.lean, 'card_holds'). Laid BY PROGRAM, IN A SANDBOX (cutbox-door.mjs). By AI agents, Wed Nov 11 2026. No macro, syntax, notation, axiom, sorry.
-/
import Derived.Test.YteifdelnahccjaaGreatDoorRows
import GoSem.ClaimSeven
namespace Go.Proofs.YteifdelnahccjaaGreatDoor
namespace Rows

/-- THE TIED CARD OF 'laws.FnExactPlanOf'. -/
def fnExactPlanOfCard : Claim7 := { stood := { row := fnExactPlanOfRow, standIns := [], harness := (true, "8d3cfca77dbd38d0d51cb0c008b9d988752664dd2b6df85e30ac4c7247c595f1"), looks := false }, kinds := [], alts := [], laidByText := true, laidKinds := [.data], laidTests := true, laidLooks := .later }
def FnExactPlanOfCardSaid : Prop := Claim7.holds Tryz.pinned (.plain (OpenSpec.ofChange fnExactPlanOfSpec)) fnExactPlanOfCard

/-- THE TIED CARD OF 'laws.FnPlan'. -/
def fnPlanCard : Claim7 := { stood := { row := fnPlanRow, standIns := [], harness := (true, "8d3cfca77dbd38d0d51cb0c008b9d988752664dd2b6df85e30ac4c7247c595f1"), looks := false }, kinds := [], alts := [], laidByText := true, laidKinds := [.data], laidTests := true, laidLooks := .later }
def FnPlanCardSaid : Prop := Claim7.holds Tryz.pinned (.plain (OpenSpec.ofChange fnPlanSpec)) fnPlanCard

/-- THE TIED CARD OF 'laws.FnExactReplicaOK'. -/
def fnExactReplicaOKCard : Claim7 := { stood := { row := fnExactReplicaOKRow, standIns := [], harness := (true, "8d3cfca77dbd38d0d51cb0c008b9d988752664dd2b6df85e30ac4c7247c595f1"), looks := false }, kinds := [], alts := [], laidByText := true, laidKinds := [.data], laidTests := true, laidLooks := .later }
def FnExactReplicaOKCardSaid : Prop := Claim7.holds Tryz.pinned (.plain (OpenSpec.ofChange fnExactReplicaOKSpec)) fnExactReplicaOKCard

/-- THE TIED CARD OF 'laws.FnExactGroupOK'. -/
def fnExactGroupOKCard : Claim7 := { stood := { row := fnExactGroupOKRow, standIns := [], harness := (true, "8d3cfca77dbd38d0d51cb0c008b9d988752664dd2b6df85e30ac4c7247c595f1"), looks := false }, kinds := [], alts := [], laidByText := true, laidKinds := [.data], laidTests := true, laidLooks := .later }
def FnExactGroupOKCardSaid : Prop := Claim7.holds Tryz.pinned (.plain (OpenSpec.ofChange fnExactGroupOKSpec)) fnExactGroupOKCard

/-- THE TIED CARD OF 'laws.FnExactCertsAgree'. -/
def fnExactCertsAgreeCard : Claim7 := { stood := { row := fnExactCertsAgreeRow, standIns := [], harness := (true, "8d3cfca77dbd38d0d51cb0c008b9d988752664dd2b6df85e30ac4c7247c595f1"), looks := false }, kinds := [], alts := [], laidByText := true, laidKinds := [.data], laidTests := true, laidLooks := .later }
def FnExactCertsAgreeCardSaid : Prop := Claim7.holds Tryz.pinned (.plain (OpenSpec.ofChange fnExactCertsAgreeSpec)) fnExactCertsAgreeCard

/-- THE TIED CARD OF 'laws.FnExactLogsAgree'. -/
def fnExactLogsAgreeCard : Claim7 := { stood := { row := fnExactLogsAgreeRow, standIns := [], harness := (true, "8d3cfca77dbd38d0d51cb0c008b9d988752664dd2b6df85e30ac4c7247c595f1"), looks := false }, kinds := [], alts := [], laidByText := true, laidKinds := [.data], laidTests := true, laidLooks := .later }
def FnExactLogsAgreeCardSaid : Prop := Claim7.holds Tryz.pinned (.plain (OpenSpec.ofChange fnExactLogsAgreeSpec)) fnExactLogsAgreeCard

/-- THE TIED CARD OF 'laws.FnExactLongestLog'. -/
def fnExactLongestLogCard : Claim7 := { stood := { row := fnExactLongestLogRow, standIns := [], harness := (true, "8d3cfca77dbd38d0d51cb0c008b9d988752664dd2b6df85e30ac4c7247c595f1"), looks := false }, kinds := [], alts := [], laidByText := true, laidKinds := [.data], laidTests := true, laidLooks := .later }
def FnExactLongestLogCardSaid : Prop := Claim7.holds Tryz.pinned (.plain (OpenSpec.ofChange fnExactLongestLogSpec)) fnExactLongestLogCard

/-- THE TIED CARD OF 'laws.FnForged'. -/
def fnForgedCard : Claim7 := { stood := { row := fnForgedRow, standIns := [], harness := (true, "8d3cfca77dbd38d0d51cb0c008b9d988752664dd2b6df85e30ac4c7247c595f1"), looks := false }, kinds := [], alts := [], laidByText := true, laidKinds := [.data], laidTests := true, laidLooks := .later }
def FnForgedCardSaid : Prop := Claim7.holds Tryz.pinned (.plain (OpenSpec.ofChange fnForgedSpec)) fnForgedCard

/-- THE TIED CARD OF 'laws.FnReplica'. -/
def fnReplicaCard : Claim7 := { stood := { row := fnReplicaRow, standIns := [], harness := (true, "8d3cfca77dbd38d0d51cb0c008b9d988752664dd2b6df85e30ac4c7247c595f1"), looks := false }, kinds := [], alts := [], laidByText := true, laidKinds := [.data], laidTests := true, laidLooks := .later }
def FnReplicaCardSaid : Prop := Claim7.holds Tryz.pinned (.plain (OpenSpec.ofChange fnReplicaSpec)) fnReplicaCard

/-- THE TIED CARD OF 'laws.FnExactWorldOK'. -/
def fnExactWorldOKCard : Claim7 := { stood := { row := fnExactWorldOKRow, standIns := [], harness := (true, "8d3cfca77dbd38d0d51cb0c008b9d988752664dd2b6df85e30ac4c7247c595f1"), looks := false }, kinds := [], alts := [], laidByText := true, laidKinds := [.data], laidTests := true, laidLooks := .later }
def FnExactWorldOKCardSaid : Prop := Claim7.holds Tryz.pinned (.plain (OpenSpec.ofChange fnExactWorldOKSpec)) fnExactWorldOKCard

/-- THE SECOND FORM's CARD OF 'laws.FnExactPlanOf'. -/
def fnExactPlanOfUptoCard : Claim7 := { stood := { row := fnExactPlanOfUptoRow, standIns := [], harness := (true, "8d3cfca77dbd38d0d51cb0c008b9d988752664dd2b6df85e30ac4c7247c595f1"), looks := false }, kinds := [], alts := [], laidByText := true, laidKinds := [.data], laidTests := true, laidLooks := .later }
def FnExactPlanOfUptoCardSaid : Prop := Claim7.holds Tryz.pinned (.plain (OpenSpec.upto fnExactPlanOfSpec)) fnExactPlanOfUptoCard

/-- THE SECOND FORM's CARD OF 'laws.FnPlan'. -/
def fnPlanUptoCard : Claim7 := { stood := { row := fnPlanUptoRow, standIns := [], harness := (true, "8d3cfca77dbd38d0d51cb0c008b9d988752664dd2b6df85e30ac4c7247c595f1"), looks := false }, kinds := [], alts := [], laidByText := true, laidKinds := [.data], laidTests := true, laidLooks := .later }
def FnPlanUptoCardSaid : Prop := Claim7.holds Tryz.pinned (.plain (OpenSpec.upto fnPlanSpec)) fnPlanUptoCard

/-- THE SECOND FORM's CARD OF 'laws.FnExactReplicaOK'. -/
def fnExactReplicaOKUptoCard : Claim7 := { stood := { row := fnExactReplicaOKUptoRow, standIns := [], harness := (true, "8d3cfca77dbd38d0d51cb0c008b9d988752664dd2b6df85e30ac4c7247c595f1"), looks := false }, kinds := [], alts := [], laidByText := true, laidKinds := [.data], laidTests := true, laidLooks := .later }
def FnExactReplicaOKUptoCardSaid : Prop := Claim7.holds Tryz.pinned (.plain (OpenSpec.upto fnExactReplicaOKSpec)) fnExactReplicaOKUptoCard

/-- THE SECOND FORM's CARD OF 'laws.FnExactGroupOK'. -/
def fnExactGroupOKUptoCard : Claim7 := { stood := { row := fnExactGroupOKUptoRow, standIns := [], harness := (true, "8d3cfca77dbd38d0d51cb0c008b9d988752664dd2b6df85e30ac4c7247c595f1"), looks := false }, kinds := [], alts := [], laidByText := true, laidKinds := [.data], laidTests := true, laidLooks := .later }
def FnExactGroupOKUptoCardSaid : Prop := Claim7.holds Tryz.pinned (.plain (OpenSpec.upto fnExactGroupOKSpec)) fnExactGroupOKUptoCard

/-- THE SECOND FORM's CARD OF 'laws.FnExactCertsAgree'. -/
def fnExactCertsAgreeUptoCard : Claim7 := { stood := { row := fnExactCertsAgreeUptoRow, standIns := [], harness := (true, "8d3cfca77dbd38d0d51cb0c008b9d988752664dd2b6df85e30ac4c7247c595f1"), looks := false }, kinds := [], alts := [], laidByText := true, laidKinds := [.data], laidTests := true, laidLooks := .later }
def FnExactCertsAgreeUptoCardSaid : Prop := Claim7.holds Tryz.pinned (.plain (OpenSpec.upto fnExactCertsAgreeSpec)) fnExactCertsAgreeUptoCard

/-- THE SECOND FORM's CARD OF 'laws.FnExactLogsAgree'. -/
def fnExactLogsAgreeUptoCard : Claim7 := { stood := { row := fnExactLogsAgreeUptoRow, standIns := [], harness := (true, "8d3cfca77dbd38d0d51cb0c008b9d988752664dd2b6df85e30ac4c7247c595f1"), looks := false }, kinds := [], alts := [], laidByText := true, laidKinds := [.data], laidTests := true, laidLooks := .later }
def FnExactLogsAgreeUptoCardSaid : Prop := Claim7.holds Tryz.pinned (.plain (OpenSpec.upto fnExactLogsAgreeSpec)) fnExactLogsAgreeUptoCard

/-- THE SECOND FORM's CARD OF 'laws.FnExactLongestLog'. -/
def fnExactLongestLogUptoCard : Claim7 := { stood := { row := fnExactLongestLogUptoRow, standIns := [], harness := (true, "8d3cfca77dbd38d0d51cb0c008b9d988752664dd2b6df85e30ac4c7247c595f1"), looks := false }, kinds := [], alts := [], laidByText := true, laidKinds := [.data], laidTests := true, laidLooks := .later }
def FnExactLongestLogUptoCardSaid : Prop := Claim7.holds Tryz.pinned (.plain (OpenSpec.upto fnExactLongestLogSpec)) fnExactLongestLogUptoCard

/-- THE SECOND FORM's CARD OF 'laws.FnForged'. -/
def fnForgedUptoCard : Claim7 := { stood := { row := fnForgedUptoRow, standIns := [], harness := (true, "8d3cfca77dbd38d0d51cb0c008b9d988752664dd2b6df85e30ac4c7247c595f1"), looks := false }, kinds := [], alts := [], laidByText := true, laidKinds := [.data], laidTests := true, laidLooks := .later }
def FnForgedUptoCardSaid : Prop := Claim7.holds Tryz.pinned (.plain (OpenSpec.upto fnForgedSpec)) fnForgedUptoCard

/-- THE SECOND FORM's CARD OF 'laws.FnReplica'. -/
def fnReplicaUptoCard : Claim7 := { stood := { row := fnReplicaUptoRow, standIns := [], harness := (true, "8d3cfca77dbd38d0d51cb0c008b9d988752664dd2b6df85e30ac4c7247c595f1"), looks := false }, kinds := [], alts := [], laidByText := true, laidKinds := [.data], laidTests := true, laidLooks := .later }
def FnReplicaUptoCardSaid : Prop := Claim7.holds Tryz.pinned (.plain (OpenSpec.upto fnReplicaSpec)) fnReplicaUptoCard

/-- THE SECOND FORM's CARD OF 'laws.FnExactWorldOK'. -/
def fnExactWorldOKUptoCard : Claim7 := { stood := { row := fnExactWorldOKUptoRow, standIns := [], harness := (true, "8d3cfca77dbd38d0d51cb0c008b9d988752664dd2b6df85e30ac4c7247c595f1"), looks := false }, kinds := [], alts := [], laidByText := true, laidKinds := [.data], laidTests := true, laidLooks := .later }
def FnExactWorldOKUptoCardSaid : Prop := Claim7.holds Tryz.pinned (.plain (OpenSpec.upto fnExactWorldOKSpec)) fnExactWorldOKUptoCard
end Rows
end Go.Proofs.YteifdelnahccjaaGreatDoor
