/-
  DERIVED. GIVEN WITH THE SEED: THE CARDS: each row of YtlngaojnfcaagaaDoorRows.lean that lists a variable, with what it lists TIED to the program's text (the seventh form; the later family's looks); each row that meets fmt, with fmt's text TOLD by the authors' own Lean function (tested against real Go, not proved from fmt's source: count such statements apart). THE CARD IS WHAT COUNTS. Prove the row's statement (the work); the ties are given (YtlngaojnfcaagaaDoorTie.lean); close each card by the builder's one call (the guide's Derived/Test/ToyasCard.lean, 'card_holds'). Laid BY PROGRAM, IN A SANDBOX (cutbox-door.mjs). By AI agents, Wed Nov 11 2026. No macro, syntax, notation, axiom, sorry.
-/
import Derived.Test.YtlngaojnfcaagaaDoorRows
import GoSem.ClaimSeven
namespace Go.Proofs.YtlngaojnfcaagaaDoor
namespace Rows

/-- THE TIED CARD OF 'signetlaw.SymSeals'. -/
def symSealsCard : Claim7 := { stood := { row := symSealsRow, standIns := [], harness := (true, "af7698ef56442f427f40157fcbf6199dd575464bb64d0ed1e0408fd00b42ecf4"), looks := false }, kinds := [], alts := [], laidByText := true, laidKinds := [.data, .data, .data], laidTests := true, laidLooks := .later }
def SymSealsCardSaid : Prop := Claim7.holds Tryd.pinned (.plain (OpenSpec.ofChange symSealsSpec)) symSealsCard

/-- THE SECOND FORM's CARD OF 'signetlaw.SymSeals'. -/
def symSealsUptoCard : Claim7 := { stood := { row := symSealsUptoRow, standIns := [], harness := (true, "af7698ef56442f427f40157fcbf6199dd575464bb64d0ed1e0408fd00b42ecf4"), looks := false }, kinds := [], alts := [], laidByText := true, laidKinds := [.data, .data, .data], laidTests := true, laidLooks := .later }
def SymSealsUptoCardSaid : Prop := Claim7.holds Tryd.pinned (.plain (OpenSpec.upto symSealsSpec)) symSealsUptoCard
end Rows
end Go.Proofs.YtlngaojnfcaagaaDoor
