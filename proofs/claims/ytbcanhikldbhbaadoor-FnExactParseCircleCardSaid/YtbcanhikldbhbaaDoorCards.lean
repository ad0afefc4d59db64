/-
  DERIVED. GIVEN WITH THE SEED: THE CARDS: each row of YtbcanhikldbhbaaDoorRows.lean that lists a variable, with what it lists TIED to the program's text (the seventh form; the later family's looks); each row that meets fmt, with fmt's text TOLD by the authors' own Lean function (tested against real Go, not proved from fmt's source: count such statements apart). THE CARD IS WHAT COUNTS. Prove the row's statement (the work); the ties are given (YtbcanhikldbhbaaDoorTie.lean); close each card by the builder's one call (the guide's Derived/Test/ToyasCard.lean, 'card_holds'). Laid BY PROGRAM, IN A SANDBOX (cutbox-door.mjs). By AI agents, Wed Nov 11 2026. No macro, syntax, notation, axiom, sorry.
-/
import Derived.Test.YtbcanhikldbhbaaDoorRows
import GoSem.ClaimSeven
namespace Go.Proofs.YtbcanhikldbhbaaDoor
namespace Rows

/-- THE TIED CARD OF 'laws.FnExactCircleText'. -/
def fnExactCircleTextCard : Claim7 := { stood := { row := fnExactCircleTextRow, standIns := [], harness := (true, "bb563c49a66024bd5b9ba98b3cbd1a4707016a712c1ee8f621d4073d1962c7b7"), looks := true }, kinds := [], alts := [], laidByText := true, laidKinds := [.data, .data, .data], laidTests := true, laidLooks := .later }
def FnExactCircleTextCardSaid : Prop := Claim7.holds Tryd.pinned (.plain (OpenSpec.ofChange fnExactCircleTextSpec)) fnExactCircleTextCard

/-- THE TIED CARD OF 'laws.FnExactParseCircle'. -/
def fnExactParseCircleCard : Claim7 := { stood := { row := fnExactParseCircleRow, standIns := [], harness := (true, "bb563c49a66024bd5b9ba98b3cbd1a4707016a712c1ee8f621d4073d1962c7b7"), looks := true }, kinds := [], alts := [], laidByText := true, laidKinds := [.data, .data, .data, .data, .sentinel, .sentinel, .pinned], laidTests := true, laidLooks := .later }
def FnExactParseCircleCardSaid : Prop := Claim7.holds Tryd.pinned (.plain (OpenSpec.ofChange fnExactParseCircleSpec)) fnExactParseCircleCard

/-- THE SECOND FORM's CARD OF 'laws.FnExactCircleText'. -/
def fnExactCircleTextUptoCard : Claim7 := { stood := { row := fnExactCircleTextUptoRow, standIns := [], harness := (true, "bb563c49a66024bd5b9ba98b3cbd1a4707016a712c1ee8f621d4073d1962c7b7"), looks := true }, kinds := [], alts := [], laidByText := true, laidKinds := [.data, .data, .data], laidTests := true, laidLooks := .later }
def FnExactCircleTextUptoCardSaid : Prop := Claim7.holds Tryd.pinned (.plain (OpenSpec.upto fnExactCircleTextSpec)) fnExactCircleTextUptoCard

/-- THE SECOND FORM's CARD OF 'laws.FnExactParseCircle'. -/
def fnExactParseCircleUptoCard : Claim7 := { stood := { row := fnExactParseCircleUptoRow, standIns := [], harness := (true, "bb563c49a66024bd5b9ba98b3cbd1a4707016a712c1ee8f621d4073d1962c7b7"), looks := true }, kinds := [], alts := [], laidByText := true, laidKinds := [.data, .data, .data, .data, .sentinel, .sentinel, .pinned], laidTests := true, laidLooks := .later }
def FnExactParseCircleUptoCardSaid : Prop := Claim7.holds Tryd.pinned (.plain (OpenSpec.upto fnExactParseCircleSpec)) fnExactParseCircleUptoCard
end Rows
end Go.Proofs.YtbcanhikldbhbaaDoor
