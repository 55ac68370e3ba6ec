/-
  DERIVED. GIVEN WITH THE SEED: THE CARDS: each row of YtnbhcnjmjlplhaaDoorRows.lean that lists a variable, with what it lists TIED to the program's text (the seventh form; the later family's looks); each row that meets fmt, with fmt's text TOLD by the authors' own Lean function (tested against real Go, not proved from fmt's source: count such statements apart). THE CARD IS WHAT COUNTS. Prove the row's statement (the work); the ties are given (YtnbhcnjmjlplhaaDoorTie.lean); close each card by the builder's one call (the guide's Derived/Test/ToyasCard.lean, 'card_holds'). Laid BY PROGRAM, IN A SANDBOX (cutbox-door.mjs). By AI agents, Wed Nov 11 2026. No macro, syntax, notation, axiom, sorry.
-/
import Derived.Test.YtnbhcnjmjlplhaaDoorRows
import GoSem.ClaimSeven
namespace Go.Proofs.YtnbhcnjmjlplhaaDoor
namespace Rows

/-- THE TIED CARD OF 'laws.FnDecisionText'. -/
def fnDecisionTextCard : Claim7 := { stood := { row := fnDecisionTextRow, standIns := [], harness := (true, "d64b34ebe21aec2295fb68a4c965fba8684d656a7037279e5f7a4e90afcc7293"), looks := false }, kinds := [], alts := [], laidByText := true, laidKinds := [.data, .data, .data], laidTests := true, laidLooks := .later }
def FnDecisionTextCardSaid : Prop := Claim7.holds Tryd.pinned (.plain (OpenSpec.ofChange fnDecisionTextSpec)) fnDecisionTextCard

/-- THE TIED CARD OF 'laws.FnExactDecisionText'. -/
def fnExactDecisionTextCard : Claim7 := { stood := { row := fnExactDecisionTextRow, standIns := [], harness := (true, "d64b34ebe21aec2295fb68a4c965fba8684d656a7037279e5f7a4e90afcc7293"), looks := false }, kinds := [], alts := [], laidByText := true, laidKinds := [.data, .data, .data], laidTests := true, laidLooks := .later }
def FnExactDecisionTextCardSaid : Prop := Claim7.holds Tryd.pinned (.plain (OpenSpec.ofChange fnExactDecisionTextSpec)) fnExactDecisionTextCard

/-- THE SECOND FORM's CARD OF 'laws.FnDecisionText'. -/
def fnDecisionTextUptoCard : Claim7 := { stood := { row := fnDecisionTextUptoRow, standIns := [], harness := (true, "d64b34ebe21aec2295fb68a4c965fba8684d656a7037279e5f7a4e90afcc7293"), looks := false }, kinds := [], alts := [], laidByText := true, laidKinds := [.data, .data, .data], laidTests := true, laidLooks := .later }
def FnDecisionTextUptoCardSaid : Prop := Claim7.holds Tryd.pinned (.plain (OpenSpec.upto fnDecisionTextSpec)) fnDecisionTextUptoCard

/-- THE SECOND FORM's CARD OF 'laws.FnExactDecisionText'. -/
def fnExactDecisionTextUptoCard : Claim7 := { stood := { row := fnExactDecisionTextUptoRow, standIns := [], harness := (true, "d64b34ebe21aec2295fb68a4c965fba8684d656a7037279e5f7a4e90afcc7293"), looks := false }, kinds := [], alts := [], laidByText := true, laidKinds := [.data, .data, .data], laidTests := true, laidLooks := .later }
def FnExactDecisionTextUptoCardSaid : Prop := Claim7.holds Tryd.pinned (.plain (OpenSpec.upto fnExactDecisionTextSpec)) fnExactDecisionTextUptoCard
end Rows
end Go.Proofs.YtnbhcnjmjlplhaaDoor
