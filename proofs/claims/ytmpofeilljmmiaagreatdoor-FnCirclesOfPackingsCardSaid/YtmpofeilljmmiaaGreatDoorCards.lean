/-
  DERIVED. GIVEN WITH THE SEED: THE CARDS: each row of YtmpofeilljmmiaaGreatDoorRows.lean that lists a variable, with what it lists TIED to the program's text (the seventh form; the later family's looks); each row that meets fmt, with fmt's text TOLD by the authors' own Lean function (tested against real Go, not proved from fmt's source: count such statements apart). THE CARD IS WHAT COUNTS. Prove the row's statement (the work); the ties are given (YtmpofeilljmmiaaGreatDoorTie.lean); close each card by the builder's one call (the guide's Derived/Test/ToyasCard.lean, 'card_holds'). Laid BY PROGRAM, IN A SANDBOX (cutbox-door.mjs). By AI agents, Wed Nov 11 2026. No macro, syntax, notation, axiom, sorry.
-/
import Derived.Test.YtmpofeilljmmiaaGreatDoorRows
import GoSem.ClaimSeven
namespace Go.Proofs.YtmpofeilljmmiaaGreatDoor
namespace Rows

/-- THE TIED CARD OF 'laws.FnCirclesOfPackings'. -/
def fnCirclesOfPackingsCard : Claim7 := { stood := { row := fnCirclesOfPackingsRow, standIns := [], harness := (true, "a6104b97654f986f62562782a9c44bb60b845292dc633b5094250da84f0d5179"), looks := true }, kinds := [], alts := [], laidByText := true, laidKinds := [.data, .data, .data, .data, .sentinel, .sentinel, .pinned], laidTests := true, laidLooks := .later }
def FnCirclesOfPackingsCardSaid : Prop := Claim7.holds Tryz.pinned (.plain (OpenSpec.ofChange fnCirclesOfPackingsSpec)) fnCirclesOfPackingsCard

/-- THE SECOND FORM's CARD OF 'laws.FnCirclesOfPackings'. -/
def fnCirclesOfPackingsUptoCard : Claim7 := { stood := { row := fnCirclesOfPackingsUptoRow, standIns := [], harness := (true, "a6104b97654f986f62562782a9c44bb60b845292dc633b5094250da84f0d5179"), looks := true }, kinds := [], alts := [], laidByText := true, laidKinds := [.data, .data, .data, .data, .sentinel, .sentinel, .pinned], laidTests := true, laidLooks := .later }
def FnCirclesOfPackingsUptoCardSaid : Prop := Claim7.holds Tryz.pinned (.plain (OpenSpec.upto fnCirclesOfPackingsSpec)) fnCirclesOfPackingsUptoCard
end Rows
end Go.Proofs.YtmpofeilljmmiaaGreatDoor
