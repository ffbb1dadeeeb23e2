/-
  DERIVED. GIVEN WITH THE SEED: THE CARDS: each row of YtkfcbhgkpknagaaGreatDoorRows.lean that lists a variable, with what it lists TIED to the program's text (the seventh form; the later family's looks); each row that meets fmt, with fmt's text TOLD by the authors' own Lean function (tested against real Go, not proved from fmt's source: count such statements apart). THE CARD IS WHAT COUNTS. Prove the row's statement (the work); the ties are given (YtkfcbhgkpknagaaGreatDoorTie.lean); close each card by the builder's one call (the guide's Derived/Test/ToyasCard.lean, 'card_holds'). Laid BY PROGRAM, IN A SANDBOX (cutbox-door.mjs). By AI agents, Wed Nov 11 2026. No macro, syntax, notation, axiom, sorry.
-/
import Derived.Test.YtkfcbhgkpknagaaGreatDoorRows
import GoSem.ClaimSeven
namespace Go.Proofs.YtkfcbhgkpknagaaGreatDoor
namespace Rows

/-- THE TIED CARD OF 'signetlaw.RatchetSeals'. -/
def ratchetSealsCard : Claim7 := { stood := { row := ratchetSealsRow, standIns := [], harness := (true, "b6c4146b42eac875bb3857ce64f8f27af9e6de6ab6a934751bacf2f198e04f34"), looks := false }, kinds := [], alts := [], laidByText := true, laidKinds := [.data, .data, .data, .data, .data], laidTests := true, laidLooks := .later }
def RatchetSealsCardSaid : Prop := Claim7.holds Tryz.pinned (.plain (OpenSpec.ofChange ratchetSealsSpec)) ratchetSealsCard

/-- THE TIED CARD OF 'signetlaw.RatchetOpens'. -/
def ratchetOpensCard : Claim7 := { stood := { row := ratchetOpensRow, standIns := [], harness := (true, "b6c4146b42eac875bb3857ce64f8f27af9e6de6ab6a934751bacf2f198e04f34"), looks := false }, kinds := [], alts := [], laidByText := true, laidKinds := [.data, .data, .data, .data, .data], laidTests := true, laidLooks := .later }
def RatchetOpensCardSaid : Prop := Claim7.holds Tryz.pinned (.plain (OpenSpec.ofChange ratchetOpensSpec)) ratchetOpensCard

/-- THE SECOND FORM's CARD OF 'signetlaw.RatchetSeals'. -/
def ratchetSealsUptoCard : Claim7 := { stood := { row := ratchetSealsUptoRow, standIns := [], harness := (true, "b6c4146b42eac875bb3857ce64f8f27af9e6de6ab6a934751bacf2f198e04f34"), looks := false }, kinds := [], alts := [], laidByText := true, laidKinds := [.data, .data, .data, .data, .data], laidTests := true, laidLooks := .later }
def RatchetSealsUptoCardSaid : Prop := Claim7.holds Tryz.pinned (.plain (OpenSpec.upto ratchetSealsSpec)) ratchetSealsUptoCard

/-- THE SECOND FORM's CARD OF 'signetlaw.RatchetOpens'. -/
def ratchetOpensUptoCard : Claim7 := { stood := { row := ratchetOpensUptoRow, standIns := [], harness := (true, "b6c4146b42eac875bb3857ce64f8f27af9e6de6ab6a934751bacf2f198e04f34"), looks := false }, kinds := [], alts := [], laidByText := true, laidKinds := [.data, .data, .data, .data, .data], laidTests := true, laidLooks := .later }
def RatchetOpensUptoCardSaid : Prop := Claim7.holds Tryz.pinned (.plain (OpenSpec.upto ratchetOpensSpec)) ratchetOpensUptoCard
end Rows
end Go.Proofs.YtkfcbhgkpknagaaGreatDoor
