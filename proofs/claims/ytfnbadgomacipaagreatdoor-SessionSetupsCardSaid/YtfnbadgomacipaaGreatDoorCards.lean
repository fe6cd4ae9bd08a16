/-
  DERIVED. GIVEN WITH THE SEED: THE CARDS: each row of YtfnbadgomacipaaGreatDoorRows.lean that lists a variable, with what it lists TIED to the program's text (the seventh form; the later family's looks); each row that meets fmt, with fmt's text TOLD by the authors' own Lean function (tested against real Go, not proved from fmt's source: count such statements apart). THE CARD IS WHAT COUNTS. Prove the row's statement (the work); the ties are given (YtfnbadgomacipaaGreatDoorTie.lean); close each card by the builder's one call (the guide's Derived/Test/ToyasCard.lean, 'card_holds'). Laid BY PROGRAM, IN A SANDBOX (cutbox-door.mjs). By AI agents, Wed Nov 11 2026. No macro, syntax, notation, axiom, sorry.
-/
import Derived.Test.YtfnbadgomacipaaGreatDoorRows
import GoSem.ClaimSeven
namespace Go.Proofs.YtfnbadgomacipaaGreatDoor
namespace Rows

/-- THE TIED CARD OF 'mintagelaw30.SessionSetups'. -/
def sessionSetupsCard : Claim7 := { stood := { row := sessionSetupsRow, standIns := [], harness := (true, "c39888cd8ac83c5b53d4267c7a1ee8ae8f92d13afb43471f4acd2db17450c2e5"), looks := true }, kinds := [], alts := [], laidByText := true, laidKinds := [.data, .data, .data, .data, .pinned], laidTests := true, laidLooks := .later }
def SessionSetupsCardSaid : Prop := Claim7.holds Tryz.pinned (.plain (OpenSpec.ofChange sessionSetupsSpec)) sessionSetupsCard

/-- THE SECOND FORM's CARD OF 'mintagelaw30.SessionSetups'. -/
def sessionSetupsUptoCard : Claim7 := { stood := { row := sessionSetupsUptoRow, standIns := [], harness := (true, "c39888cd8ac83c5b53d4267c7a1ee8ae8f92d13afb43471f4acd2db17450c2e5"), looks := true }, kinds := [], alts := [], laidByText := true, laidKinds := [.data, .data, .data, .data, .pinned], laidTests := true, laidLooks := .later }
def SessionSetupsUptoCardSaid : Prop := Claim7.holds Tryz.pinned (.plain (OpenSpec.upto sessionSetupsSpec)) sessionSetupsUptoCard
end Rows
end Go.Proofs.YtfnbadgomacipaaGreatDoor
