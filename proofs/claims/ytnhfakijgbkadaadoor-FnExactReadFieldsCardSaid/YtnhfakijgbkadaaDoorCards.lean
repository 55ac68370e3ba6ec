/-
  DERIVED. GIVEN WITH THE SEED: THE CARDS: each row of YtnhfakijgbkadaaDoorRows.lean that lists a variable, with what it lists TIED to the program's text (the seventh form; the later family's looks); each row that meets fmt, with fmt's text TOLD by the authors' own Lean function (tested against real Go, not proved from fmt's source: count such statements apart). THE CARD IS WHAT COUNTS. Prove the row's statement (the work); the ties are given (YtnhfakijgbkadaaDoorTie.lean); close each card by the builder's one call (the guide's Derived/Test/ToyasCard.lean, 'card_holds'). Laid BY PROGRAM, IN A SANDBOX (cutbox-door.mjs). By AI agents, Wed Nov 11 2026. No macro, syntax, notation, axiom, sorry.
-/
import Derived.Test.YtnhfakijgbkadaaDoorRows
import GoSem.ClaimSeven
namespace Go.Proofs.YtnhfakijgbkadaaDoor
namespace Rows

/-- THE TIED CARD OF 'laws.FnExactFieldsText'. -/
def fnExactFieldsTextCard : Claim7 := { stood := { row := fnExactFieldsTextRow, standIns := [], harness := (true, "459b55188c7f2e9c2fa81b555c80ae0f44cb2055a0b41807155506239013ed8f"), looks := false }, kinds := [], alts := [], laidByText := true, laidKinds := [.data, .data, .data], laidTests := true, laidLooks := .later }
def FnExactFieldsTextCardSaid : Prop := Claim7.holds Tryd.pinned (.plain (OpenSpec.ofChange fnExactFieldsTextSpec)) fnExactFieldsTextCard

/-- THE TIED CARD OF 'laws.FnFieldsText'. -/
def fnFieldsTextCard : Claim7 := { stood := { row := fnFieldsTextRow, standIns := [], harness := (true, "459b55188c7f2e9c2fa81b555c80ae0f44cb2055a0b41807155506239013ed8f"), looks := false }, kinds := [], alts := [], laidByText := true, laidKinds := [.data, .data, .data, .data, .pinned], laidTests := true, laidLooks := .later }
def FnFieldsTextCardSaid : Prop := Claim7.holds Tryd.pinned (.plain (OpenSpec.ofChange fnFieldsTextSpec)) fnFieldsTextCard

/-- THE TIED CARD OF 'laws.FnReadFields'. -/
def fnReadFieldsCard : Claim7 := { stood := { row := fnReadFieldsRow, standIns := [], harness := (true, "459b55188c7f2e9c2fa81b555c80ae0f44cb2055a0b41807155506239013ed8f"), looks := false }, kinds := [], alts := [], laidByText := true, laidKinds := [.data, .data, .data, .data, .pinned], laidTests := true, laidLooks := .later }
def FnReadFieldsCardSaid : Prop := Claim7.holds Tryd.pinned (.plain (OpenSpec.ofChange fnReadFieldsSpec)) fnReadFieldsCard

/-- THE TIED CARD OF 'laws.FnExactReadFields'. -/
def fnExactReadFieldsCard : Claim7 := { stood := { row := fnExactReadFieldsRow, standIns := [], harness := (true, "459b55188c7f2e9c2fa81b555c80ae0f44cb2055a0b41807155506239013ed8f"), looks := false }, kinds := [], alts := [], laidByText := true, laidKinds := [.data, .data, .data, .data, .pinned], laidTests := true, laidLooks := .later }
def FnExactReadFieldsCardSaid : Prop := Claim7.holds Tryd.pinned (.plain (OpenSpec.ofChange fnExactReadFieldsSpec)) fnExactReadFieldsCard

/-- THE TIED CARD OF 'laws.FnExactThingText'. -/
def fnExactThingTextCard : Claim7 := { stood := { row := fnExactThingTextRow, standIns := [], harness := (true, "459b55188c7f2e9c2fa81b555c80ae0f44cb2055a0b41807155506239013ed8f"), looks := false }, kinds := [], alts := [], laidByText := true, laidKinds := [.data, .data, .data], laidTests := true, laidLooks := .later }
def FnExactThingTextCardSaid : Prop := Claim7.holds Tryd.pinned (.plain (OpenSpec.ofChange fnExactThingTextSpec)) fnExactThingTextCard

/-- THE SECOND FORM's CARD OF 'laws.FnExactFieldsText'. -/
def fnExactFieldsTextUptoCard : Claim7 := { stood := { row := fnExactFieldsTextUptoRow, standIns := [], harness := (true, "459b55188c7f2e9c2fa81b555c80ae0f44cb2055a0b41807155506239013ed8f"), looks := false }, kinds := [], alts := [], laidByText := true, laidKinds := [.data, .data, .data], laidTests := true, laidLooks := .later }
def FnExactFieldsTextUptoCardSaid : Prop := Claim7.holds Tryd.pinned (.plain (OpenSpec.upto fnExactFieldsTextSpec)) fnExactFieldsTextUptoCard

/-- THE SECOND FORM's CARD OF 'laws.FnFieldsText'. -/
def fnFieldsTextUptoCard : Claim7 := { stood := { row := fnFieldsTextUptoRow, standIns := [], harness := (true, "459b55188c7f2e9c2fa81b555c80ae0f44cb2055a0b41807155506239013ed8f"), looks := false }, kinds := [], alts := [], laidByText := true, laidKinds := [.data, .data, .data, .data, .pinned], laidTests := true, laidLooks := .later }
def FnFieldsTextUptoCardSaid : Prop := Claim7.holds Tryd.pinned (.plain (OpenSpec.upto fnFieldsTextSpec)) fnFieldsTextUptoCard

/-- THE SECOND FORM's CARD OF 'laws.FnReadFields'. -/
def fnReadFieldsUptoCard : Claim7 := { stood := { row := fnReadFieldsUptoRow, standIns := [], harness := (true, "459b55188c7f2e9c2fa81b555c80ae0f44cb2055a0b41807155506239013ed8f"), looks := false }, kinds := [], alts := [], laidByText := true, laidKinds := [.data, .data, .data, .data, .pinned], laidTests := true, laidLooks := .later }
def FnReadFieldsUptoCardSaid : Prop := Claim7.holds Tryd.pinned (.plain (OpenSpec.upto fnReadFieldsSpec)) fnReadFieldsUptoCard

/-- THE SECOND FORM's CARD OF 'laws.FnExactReadFields'. -/
def fnExactReadFieldsUptoCard : Claim7 := { stood := { row := fnExactReadFieldsUptoRow, standIns := [], harness := (true, "459b55188c7f2e9c2fa81b555c80ae0f44cb2055a0b41807155506239013ed8f"), looks := false }, kinds := [], alts := [], laidByText := true, laidKinds := [.data, .data, .data, .data, .pinned], laidTests := true, laidLooks := .later }
def FnExactReadFieldsUptoCardSaid : Prop := Claim7.holds Tryd.pinned (.plain (OpenSpec.upto fnExactReadFieldsSpec)) fnExactReadFieldsUptoCard

/-- THE SECOND FORM's CARD OF 'laws.FnExactThingText'. -/
def fnExactThingTextUptoCard : Claim7 := { stood := { row := fnExactThingTextUptoRow, standIns := [], harness := (true, "459b55188c7f2e9c2fa81b555c80ae0f44cb2055a0b41807155506239013ed8f"), looks := false }, kinds := [], alts := [], laidByText := true, laidKinds := [.data, .data, .data], laidTests := true, laidLooks := .later }
def FnExactThingTextUptoCardSaid : Prop := Claim7.holds Tryd.pinned (.plain (OpenSpec.upto fnExactThingTextSpec)) fnExactThingTextUptoCard
end Rows
end Go.Proofs.YtnhfakijgbkadaaDoor
