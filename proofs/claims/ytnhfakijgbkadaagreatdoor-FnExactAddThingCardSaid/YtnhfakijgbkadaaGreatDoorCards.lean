/-
  DERIVED. GIVEN WITH THE SEED: THE CARDS: each row of YtnhfakijgbkadaaGreatDoorRows.lean that lists a variable, with what it lists TIED to the program's text (the seventh form; the later family's looks); each row that meets fmt, with fmt's text TOLD by the authors' own Lean function (tested against real Go, not proved from fmt's source: count such statements apart). THE CARD IS WHAT COUNTS. Prove the row's statement (the work); the ties are given (YtnhfakijgbkadaaGreatDoorTie.lean); close each card by the builder's one call (the guide's Derived/Test/ToyasCard.lean, 'card_holds'). Laid BY PROGRAM, IN A SANDBOX (cutbox-door.mjs). By AI agents, Wed Nov 11 2026. No macro, syntax, notation, axiom, sorry.
-/
import Derived.Test.YtnhfakijgbkadaaGreatDoorRows
import GoSem.ClaimSeven
namespace Go.Proofs.YtnhfakijgbkadaaGreatDoor
namespace Rows

/-- THE TIED CARD OF 'laws.FnThingText'. -/
def fnThingTextCard : Claim7 := { stood := { row := fnThingTextRow, standIns := [], harness := (true, "f3d2f2848f6d93597fa0bce0e20ef5c0d900739d5eb4a5297ea1d78a75eea705"), looks := true }, kinds := [], alts := [], laidByText := true, laidKinds := [.data, .data, .data, .data, .sentinel, .sentinel, .pinned], laidTests := true, laidLooks := .later }
def FnThingTextCardSaid : Prop := Claim7.holds Tryz.pinned (.plain (OpenSpec.ofChange fnThingTextSpec)) fnThingTextCard

/-- THE TIED CARD OF 'laws.FnAddThing'. -/
def fnAddThingCard : Claim7 := { stood := { row := fnAddThingRow, standIns := [], harness := (true, "f3d2f2848f6d93597fa0bce0e20ef5c0d900739d5eb4a5297ea1d78a75eea705"), looks := true }, kinds := [], alts := [], laidByText := true, laidKinds := [.data, .data, .data, .data, .sentinel, .sentinel, .pinned], laidTests := true, laidLooks := .later }
def FnAddThingCardSaid : Prop := Claim7.holds Tryz.pinned (.plain (OpenSpec.ofChange fnAddThingSpec)) fnAddThingCard

/-- THE TIED CARD OF 'laws.FnExactAddThing'. -/
def fnExactAddThingCard : Claim7 := { stood := { row := fnExactAddThingRow, standIns := [], harness := (true, "f3d2f2848f6d93597fa0bce0e20ef5c0d900739d5eb4a5297ea1d78a75eea705"), looks := true }, kinds := [], alts := [], laidByText := true, laidKinds := [.data, .data, .data, .data, .sentinel, .sentinel, .pinned], laidTests := true, laidLooks := .later }
def FnExactAddThingCardSaid : Prop := Claim7.holds Tryz.pinned (.plain (OpenSpec.ofChange fnExactAddThingSpec)) fnExactAddThingCard

/-- THE SECOND FORM's CARD OF 'laws.FnThingText'. -/
def fnThingTextUptoCard : Claim7 := { stood := { row := fnThingTextUptoRow, standIns := [], harness := (true, "f3d2f2848f6d93597fa0bce0e20ef5c0d900739d5eb4a5297ea1d78a75eea705"), looks := true }, kinds := [], alts := [], laidByText := true, laidKinds := [.data, .data, .data, .data, .sentinel, .sentinel, .pinned], laidTests := true, laidLooks := .later }
def FnThingTextUptoCardSaid : Prop := Claim7.holds Tryz.pinned (.plain (OpenSpec.upto fnThingTextSpec)) fnThingTextUptoCard

/-- THE SECOND FORM's CARD OF 'laws.FnAddThing'. -/
def fnAddThingUptoCard : Claim7 := { stood := { row := fnAddThingUptoRow, standIns := [], harness := (true, "f3d2f2848f6d93597fa0bce0e20ef5c0d900739d5eb4a5297ea1d78a75eea705"), looks := true }, kinds := [], alts := [], laidByText := true, laidKinds := [.data, .data, .data, .data, .sentinel, .sentinel, .pinned], laidTests := true, laidLooks := .later }
def FnAddThingUptoCardSaid : Prop := Claim7.holds Tryz.pinned (.plain (OpenSpec.upto fnAddThingSpec)) fnAddThingUptoCard

/-- THE SECOND FORM's CARD OF 'laws.FnExactAddThing'. -/
def fnExactAddThingUptoCard : Claim7 := { stood := { row := fnExactAddThingUptoRow, standIns := [], harness := (true, "f3d2f2848f6d93597fa0bce0e20ef5c0d900739d5eb4a5297ea1d78a75eea705"), looks := true }, kinds := [], alts := [], laidByText := true, laidKinds := [.data, .data, .data, .data, .sentinel, .sentinel, .pinned], laidTests := true, laidLooks := .later }
def FnExactAddThingUptoCardSaid : Prop := Claim7.holds Tryz.pinned (.plain (OpenSpec.upto fnExactAddThingSpec)) fnExactAddThingUptoCard
end Rows
end Go.Proofs.YtnhfakijgbkadaaGreatDoor
