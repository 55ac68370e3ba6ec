/-
  DERIVED. GIVEN WITH THE SEED: THE CARDS: each row of YtaolcbhncnpldaaGreatDoorRows.lean that lists a variable, with what it lists TIED to the program's text (the seventh form; the later family's looks); each row that meets fmt, with fmt's text TOLD by the authors' own Lean function (tested against real Go, not proved from fmt's source: count such statements apart). THE CARD IS WHAT COUNTS. Prove the row's statement (the work); the ties are given (YtaolcbhncnpldaaGreatDoorTie.lean); close each card by the builder's one call (the guide's Derived/Test/ToyasCard.lean, 'card_holds'). Laid BY PROGRAM, IN A SANDBOX (cutbox-door.mjs). By AI agents, Wed Nov 11 2026. No macro, syntax, notation, axiom, sorry.
-/
import Derived.Test.YtaolcbhncnpldaaGreatDoorRows
import GoSem.ClaimSeven
namespace Go.Proofs.YtaolcbhncnpldaaGreatDoor
namespace Rows

/-- THE TIED CARD OF 'laws.FnPolicyText'. -/
def fnPolicyTextCard : Claim7 := { stood := { row := fnPolicyTextRow, standIns := [], harness := (true, "3affeec02632eebb4b32549cee673ebd5d9fc40a82322a0a3aaec941658c67e4"), looks := true }, kinds := [], alts := [], laidByText := true, laidKinds := [.data, .data, .data, .data, .sentinel, .sentinel, .mapped, .pinned], laidTests := true, laidLooks := .later }
def FnPolicyTextCardSaid : Prop := Claim7.holds Tryz.pinned (.plain (OpenSpec.ofChange fnPolicyTextSpec)) fnPolicyTextCard

/-- THE TIED CARD OF 'laws.FnExactReadPolicy'. -/
def fnExactReadPolicyCard : Claim7 := { stood := { row := fnExactReadPolicyRow, standIns := [], harness := (true, "3affeec02632eebb4b32549cee673ebd5d9fc40a82322a0a3aaec941658c67e4"), looks := true }, kinds := [], alts := [], laidByText := true, laidKinds := [.data, .data, .data, .data, .sentinel, .sentinel, .mapped, .pinned], laidTests := true, laidLooks := .later }
def FnExactReadPolicyCardSaid : Prop := Claim7.holds Tryz.pinned (.plain (OpenSpec.ofChange fnExactReadPolicySpec)) fnExactReadPolicyCard

/-- THE TIED CARD OF 'laws.FnReadPolicy'. -/
def fnReadPolicyCard : Claim7 := { stood := { row := fnReadPolicyRow, standIns := [], harness := (true, "3affeec02632eebb4b32549cee673ebd5d9fc40a82322a0a3aaec941658c67e4"), looks := true }, kinds := [], alts := [], laidByText := true, laidKinds := [.data, .data, .data, .data, .sentinel, .sentinel, .mapped, .pinned], laidTests := true, laidLooks := .later }
def FnReadPolicyCardSaid : Prop := Claim7.holds Tryz.pinned (.plain (OpenSpec.ofChange fnReadPolicySpec)) fnReadPolicyCard

/-- THE SECOND FORM's CARD OF 'laws.FnPolicyText'. -/
def fnPolicyTextUptoCard : Claim7 := { stood := { row := fnPolicyTextUptoRow, standIns := [], harness := (true, "3affeec02632eebb4b32549cee673ebd5d9fc40a82322a0a3aaec941658c67e4"), looks := true }, kinds := [], alts := [], laidByText := true, laidKinds := [.data, .data, .data, .data, .sentinel, .sentinel, .mapped, .pinned], laidTests := true, laidLooks := .later }
def FnPolicyTextUptoCardSaid : Prop := Claim7.holds Tryz.pinned (.plain (OpenSpec.upto fnPolicyTextSpec)) fnPolicyTextUptoCard

/-- THE SECOND FORM's CARD OF 'laws.FnExactReadPolicy'. -/
def fnExactReadPolicyUptoCard : Claim7 := { stood := { row := fnExactReadPolicyUptoRow, standIns := [], harness := (true, "3affeec02632eebb4b32549cee673ebd5d9fc40a82322a0a3aaec941658c67e4"), looks := true }, kinds := [], alts := [], laidByText := true, laidKinds := [.data, .data, .data, .data, .sentinel, .sentinel, .mapped, .pinned], laidTests := true, laidLooks := .later }
def FnExactReadPolicyUptoCardSaid : Prop := Claim7.holds Tryz.pinned (.plain (OpenSpec.upto fnExactReadPolicySpec)) fnExactReadPolicyUptoCard

/-- THE SECOND FORM's CARD OF 'laws.FnReadPolicy'. -/
def fnReadPolicyUptoCard : Claim7 := { stood := { row := fnReadPolicyUptoRow, standIns := [], harness := (true, "3affeec02632eebb4b32549cee673ebd5d9fc40a82322a0a3aaec941658c67e4"), looks := true }, kinds := [], alts := [], laidByText := true, laidKinds := [.data, .data, .data, .data, .sentinel, .sentinel, .mapped, .pinned], laidTests := true, laidLooks := .later }
def FnReadPolicyUptoCardSaid : Prop := Claim7.holds Tryz.pinned (.plain (OpenSpec.upto fnReadPolicySpec)) fnReadPolicyUptoCard
end Rows
end Go.Proofs.YtaolcbhncnpldaaGreatDoor
