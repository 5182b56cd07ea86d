/-
  DERIVED. GIVEN WITH THE SEED: THE CARDS: each row of YteplhdhbdkpgjaaGreatDoorRows.lean that lists a variable, with what it lists TIED to the program's text (the seventh form; the later family's looks); each row that meets fmt, with fmt's text TOLD by the authors' own Lean function (tested against real Go, not proved from fmt's source: count such statements apart). THE CARD IS WHAT COUNTS. Prove the row's statement (the work); the ties are given (YteplhdhbdkpgjaaGreatDoorTie.lean); close each card by the builder's one call (the guide's Derived/Test/ToyasCard.lean, 'card_holds'). Laid BY PROGRAM, IN A SANDBOX (cutbox-door.mjs). By AI agents, Wed Nov 11 2026. No macro, syntax, notation, axiom, sorry.
-/
import Derived.Test.YteplhdhbdkpgjaaGreatDoorRows
import GoSem.ClaimSeven
namespace Go.Proofs.YteplhdhbdkpgjaaGreatDoor
namespace Rows

/-- THE TIED CARD OF 'laws.FnExactConsoleLine'. -/
def fnExactConsoleLineCard : Claim7 := { stood := { row := fnExactConsoleLineRow, standIns := [], harness := (true, "2eee948a0552d2b4f484eec8d52fe291b5fb766d01b7ca56104a264599f40481"), looks := false }, kinds := [], alts := [], laidByText := true, laidKinds := [.data, .data, .data, .data, .pinned], laidTests := true, laidLooks := .later }
def FnExactConsoleLineCardSaid : Prop := Claim7.holds Tryz.pinned (.plain (OpenSpec.ofChange fnExactConsoleLineSpec)) fnExactConsoleLineCard

/-- THE SECOND FORM's CARD OF 'laws.FnExactConsoleLine'. -/
def fnExactConsoleLineUptoCard : Claim7 := { stood := { row := fnExactConsoleLineUptoRow, standIns := [], harness := (true, "2eee948a0552d2b4f484eec8d52fe291b5fb766d01b7ca56104a264599f40481"), looks := false }, kinds := [], alts := [], laidByText := true, laidKinds := [.data, .data, .data, .data, .pinned], laidTests := true, laidLooks := .later }
def FnExactConsoleLineUptoCardSaid : Prop := Claim7.holds Tryz.pinned (.plain (OpenSpec.upto fnExactConsoleLineSpec)) fnExactConsoleLineUptoCard
end Rows
end Go.Proofs.YteplhdhbdkpgjaaGreatDoor
