/-
  DERIVED. GIVEN WITH THE SEED: THE CARDS: each row of YtcafccndgpopkaaDoorRows.lean that lists a variable, with what it lists TIED to the program's text (the seventh form; the later family's looks); each row that meets fmt, with fmt's text TOLD by the authors' own Lean function (tested against real Go, not proved from fmt's source: count such statements apart). THE CARD IS WHAT COUNTS. Prove the row's statement (the work); the ties are given (YtcafccndgpopkaaDoorTie.lean); close each card by the builder's one call (the guide's Derived/Test/ToyasCard.lean, 'card_holds'). Laid BY PROGRAM, IN A SANDBOX (cutbox-door.mjs). By AI agents, Wed Nov 11 2026. No macro, syntax, notation, axiom, sorry.
-/
import Derived.Test.YtcafccndgpopkaaDoorRows
import GoSem.ClaimSeven
namespace Go.Proofs.YtcafccndgpopkaaDoor
namespace Rows

/-- THE TIED CARD OF 'laws.FnExactClientTake'. -/
def fnExactClientTakeCard : Claim7 := { stood := { row := fnExactClientTakeRow, standIns := [], harness := (true, "c60cdca6f808acf7026396d7c1bafd06e8fbd3f98e84da00d6ca0ce1169dd7fa"), looks := true }, kinds := [], alts := [], laidByText := true, laidKinds := [.data], laidTests := true, laidLooks := .later }
def FnExactClientTakeCardSaid : Prop := Claim7.holds Tryd.pinned (.plain (OpenSpec.ofChange fnExactClientTakeSpec)) fnExactClientTakeCard

/-- THE TIED CARD OF 'laws.FnExactClientCall'. -/
def fnExactClientCallCard : Claim7 := { stood := { row := fnExactClientCallRow, standIns := [], harness := (true, "c60cdca6f808acf7026396d7c1bafd06e8fbd3f98e84da00d6ca0ce1169dd7fa"), looks := true }, kinds := [], alts := [], laidByText := true, laidKinds := [.data], laidTests := true, laidLooks := .later }
def FnExactClientCallCardSaid : Prop := Claim7.holds Tryd.pinned (.plain (OpenSpec.ofChange fnExactClientCallSpec)) fnExactClientCallCard

/-- THE TIED CARD OF 'laws.FnExactReadLine'. -/
def fnExactReadLineCard : Claim7 := { stood := { row := fnExactReadLineRow, standIns := [], harness := (true, "c60cdca6f808acf7026396d7c1bafd06e8fbd3f98e84da00d6ca0ce1169dd7fa"), looks := true }, kinds := [], alts := [], laidByText := true, laidKinds := [.data, .data, .data, .sentinel, .sentinel], laidTests := true, laidLooks := .later }
def FnExactReadLineCardSaid : Prop := Claim7.holds Tryd.pinned (.plain (OpenSpec.ofChange fnExactReadLineSpec)) fnExactReadLineCard

/-- THE SECOND FORM's CARD OF 'laws.FnExactClientTake'. -/
def fnExactClientTakeUptoCard : Claim7 := { stood := { row := fnExactClientTakeUptoRow, standIns := [], harness := (true, "c60cdca6f808acf7026396d7c1bafd06e8fbd3f98e84da00d6ca0ce1169dd7fa"), looks := true }, kinds := [], alts := [], laidByText := true, laidKinds := [.data], laidTests := true, laidLooks := .later }
def FnExactClientTakeUptoCardSaid : Prop := Claim7.holds Tryd.pinned (.plain (OpenSpec.upto fnExactClientTakeSpec)) fnExactClientTakeUptoCard

/-- THE SECOND FORM's CARD OF 'laws.FnExactClientCall'. -/
def fnExactClientCallUptoCard : Claim7 := { stood := { row := fnExactClientCallUptoRow, standIns := [], harness := (true, "c60cdca6f808acf7026396d7c1bafd06e8fbd3f98e84da00d6ca0ce1169dd7fa"), looks := true }, kinds := [], alts := [], laidByText := true, laidKinds := [.data], laidTests := true, laidLooks := .later }
def FnExactClientCallUptoCardSaid : Prop := Claim7.holds Tryd.pinned (.plain (OpenSpec.upto fnExactClientCallSpec)) fnExactClientCallUptoCard

/-- THE SECOND FORM's CARD OF 'laws.FnExactReadLine'. -/
def fnExactReadLineUptoCard : Claim7 := { stood := { row := fnExactReadLineUptoRow, standIns := [], harness := (true, "c60cdca6f808acf7026396d7c1bafd06e8fbd3f98e84da00d6ca0ce1169dd7fa"), looks := true }, kinds := [], alts := [], laidByText := true, laidKinds := [.data, .data, .data, .sentinel, .sentinel], laidTests := true, laidLooks := .later }
def FnExactReadLineUptoCardSaid : Prop := Claim7.holds Tryd.pinned (.plain (OpenSpec.upto fnExactReadLineSpec)) fnExactReadLineUptoCard
end Rows
end Go.Proofs.YtcafccndgpopkaaDoor
