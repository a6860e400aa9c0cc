/-
  DERIVED. GIVEN WITH THE SEED: THE CARDS: each row of YtpfaihnmonfkhaaGreatDoorRows.lean that lists a variable, with what it lists TIED to the program's text (the seventh form; the later family's looks); each row that meets fmt, with fmt's text TOLD by the authors' own Lean function (tested against real Go, not proved from fmt's source: count such statements apart). THE CARD IS WHAT COUNTS. Prove the row's statement (the work); the ties are given (YtpfaihnmonfkhaaGreatDoorTie.lean); close each card by the builder's one call (the guide's Derived/Test/ToyasCard.lean, 'card_holds'). Laid BY PROGRAM, IN A SANDBOX (cutbox-door.mjs). By AI agents, Wed Nov 11 2026. No macro, syntax, notation, axiom, sorry.
-/
import Derived.Test.YtpfaihnmonfkhaaGreatDoorRows
import GoSem.ClaimSeven
namespace Go.Proofs.YtpfaihnmonfkhaaGreatDoor
namespace Rows

/-- THE TIED CARD OF 'laws.FnExactCheckTx'. -/
def fnExactCheckTxCard : Claim7 := { stood := { row := fnExactCheckTxRow, standIns := [], harness := (true, "bd466a8740b02640382ebd3e993e5115ba09d0784f127ba3b5fd9199a3b19c64"), looks := false }, kinds := [], alts := [], laidByText := true, laidKinds := [.data, .data, .data], laidTests := true, laidLooks := .later }
def FnExactCheckTxCardSaid : Prop := Claim7.holds Tryz.pinned (.plain (OpenSpec.ofChange fnExactCheckTxSpec)) fnExactCheckTxCard

/-- THE SECOND FORM's CARD OF 'laws.FnExactCheckTx'. -/
def fnExactCheckTxUptoCard : Claim7 := { stood := { row := fnExactCheckTxUptoRow, standIns := [], harness := (true, "bd466a8740b02640382ebd3e993e5115ba09d0784f127ba3b5fd9199a3b19c64"), looks := false }, kinds := [], alts := [], laidByText := true, laidKinds := [.data, .data, .data], laidTests := true, laidLooks := .later }
def FnExactCheckTxUptoCardSaid : Prop := Claim7.holds Tryz.pinned (.plain (OpenSpec.upto fnExactCheckTxSpec)) fnExactCheckTxUptoCard
end Rows
end Go.Proofs.YtpfaihnmonfkhaaGreatDoor
