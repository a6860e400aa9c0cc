/-
  DERIVED. GIVEN WITH THE SEED: THE CARDS: each row of YtcpacdbdehphkaaGreatDoorRows.lean that lists a variable, with what it lists TIED to the program's text (the seventh form; the later family's looks); each row that meets fmt, with fmt's text TOLD by the authors' own Lean function (tested against real Go, not proved from fmt's source: count such statements apart). THE CARD IS WHAT COUNTS. Prove the row's statement (the work); the ties are given (YtcpacdbdehphkaaGreatDoorTie.lean); close each card by the builder's one call (the guide's Derived/Test/ToyasCard.lean, 'card_holds'). Laid BY PROGRAM, IN A SANDBOX (cutbox-door.mjs). By AI agents, Wed Nov 11 2026. No macro, syntax, notation, axiom, sorry.
-/
import Derived.Test.YtcpacdbdehphkaaGreatDoorRows
import GoSem.ClaimSeven
namespace Go.Proofs.YtcpacdbdehphkaaGreatDoor
namespace Rows

/-- THE TIED CARD OF 'laws.FnExactParseTx'. -/
def fnExactParseTxCard : Claim7 := { stood := { row := fnExactParseTxRow, standIns := [], harness := (true, "464246962463cef62892d7118d82c01e3f0ac46f5448544d14bb7486f1a5943a"), looks := true }, kinds := [], alts := [], laidByText := true, laidKinds := [.data, .data, .data, .data, .sentinel, .sentinel, .pinned], laidTests := true, laidLooks := .later }
def FnExactParseTxCardSaid : Prop := Claim7.holds Tryz.pinned (.plain (OpenSpec.ofChange fnExactParseTxSpec)) fnExactParseTxCard

/-- THE SECOND FORM's CARD OF 'laws.FnExactParseTx'. -/
def fnExactParseTxUptoCard : Claim7 := { stood := { row := fnExactParseTxUptoRow, standIns := [], harness := (true, "464246962463cef62892d7118d82c01e3f0ac46f5448544d14bb7486f1a5943a"), looks := true }, kinds := [], alts := [], laidByText := true, laidKinds := [.data, .data, .data, .data, .sentinel, .sentinel, .pinned], laidTests := true, laidLooks := .later }
def FnExactParseTxUptoCardSaid : Prop := Claim7.holds Tryz.pinned (.plain (OpenSpec.upto fnExactParseTxSpec)) fnExactParseTxUptoCard
end Rows
end Go.Proofs.YtcpacdbdehphkaaGreatDoor
