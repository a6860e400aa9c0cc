/-
  DERIVED. GIVEN WITH THE SEED: THE CARDS: each row of YtdhkcglfeiapoaaDoorRows.lean that lists a variable, with what it lists TIED to the program's text (the seventh form; the later family's looks); each row that meets fmt, with fmt's text TOLD by the authors' own Lean function (tested against real Go, not proved from fmt's source: count such statements apart). THE CARD IS WHAT COUNTS. Prove the row's statement (the work); the ties are given (YtdhkcglfeiapoaaDoorTie.lean); close each card by the builder's one call (the guide's Derived/Test/ToyasCard.lean, 'card_holds'). Laid BY PROGRAM, IN A SANDBOX (cutbox-door.mjs). By AI agents, Wed Nov 11 2026. No macro, syntax, notation, axiom, sorry.
-/
import Derived.Test.YtdhkcglfeiapoaaDoorRows
import GoSem.ClaimSeven
namespace Go.Proofs.YtdhkcglfeiapoaaDoor
namespace Rows

/-- THE TIED CARD OF 'laws.FnExactRuleText'. -/
def fnExactRuleTextCard : Claim7 := { stood := { row := fnExactRuleTextRow, standIns := [], harness := (true, "334744d1e499174ccc3bf84a9cf533abbd4e62e263cf2f42644d3ca2e2546650"), looks := false }, kinds := [], alts := [], laidByText := true, laidKinds := [.data, .data, .data], laidTests := true, laidLooks := .later }
def FnExactRuleTextCardSaid : Prop := Claim7.holds Tryd.pinned (.plain (OpenSpec.ofChange fnExactRuleTextSpec)) fnExactRuleTextCard

/-- THE TIED CARD OF 'laws.FnExactBlockText'. -/
def fnExactBlockTextCard : Claim7 := { stood := { row := fnExactBlockTextRow, standIns := [], harness := (true, "334744d1e499174ccc3bf84a9cf533abbd4e62e263cf2f42644d3ca2e2546650"), looks := false }, kinds := [], alts := [], laidByText := true, laidKinds := [.data, .data, .data], laidTests := true, laidLooks := .later }
def FnExactBlockTextCardSaid : Prop := Claim7.holds Tryd.pinned (.plain (OpenSpec.ofChange fnExactBlockTextSpec)) fnExactBlockTextCard

/-- THE SECOND FORM's CARD OF 'laws.FnExactRuleText'. -/
def fnExactRuleTextUptoCard : Claim7 := { stood := { row := fnExactRuleTextUptoRow, standIns := [], harness := (true, "334744d1e499174ccc3bf84a9cf533abbd4e62e263cf2f42644d3ca2e2546650"), looks := false }, kinds := [], alts := [], laidByText := true, laidKinds := [.data, .data, .data], laidTests := true, laidLooks := .later }
def FnExactRuleTextUptoCardSaid : Prop := Claim7.holds Tryd.pinned (.plain (OpenSpec.upto fnExactRuleTextSpec)) fnExactRuleTextUptoCard

/-- THE SECOND FORM's CARD OF 'laws.FnExactBlockText'. -/
def fnExactBlockTextUptoCard : Claim7 := { stood := { row := fnExactBlockTextUptoRow, standIns := [], harness := (true, "334744d1e499174ccc3bf84a9cf533abbd4e62e263cf2f42644d3ca2e2546650"), looks := false }, kinds := [], alts := [], laidByText := true, laidKinds := [.data, .data, .data], laidTests := true, laidLooks := .later }
def FnExactBlockTextUptoCardSaid : Prop := Claim7.holds Tryd.pinned (.plain (OpenSpec.upto fnExactBlockTextSpec)) fnExactBlockTextUptoCard
end Rows
end Go.Proofs.YtdhkcglfeiapoaaDoor
