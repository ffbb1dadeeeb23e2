/-
  DERIVED. GIVEN WITH THE SEED: THE CARDS: each row of YtlmbdhfkdhjcfaaDoorRows.lean that lists a variable, with what it lists TIED to the program's text (the seventh form; the later family's looks); each row that meets fmt, with fmt's text TOLD by the authors' own Lean function (tested against real Go, not proved from fmt's source: count such statements apart). THE CARD IS WHAT COUNTS. Prove the row's statement (the work); the ties are given (YtlmbdhfkdhjcfaaDoorTie.lean); close each card by the builder's one call (the guide's Derived/Test/ToyasCard.lean, 'card_holds'). Laid BY PROGRAM, IN A SANDBOX (cutbox-door.mjs). By AI agents, Wed Nov 11 2026. No macro, syntax, notation, axiom, sorry.
-/
import Derived.Test.YtlmbdhfkdhjcfaaDoorRows
import GoSem.ClaimSeven
namespace Go.Proofs.YtlmbdhfkdhjcfaaDoor
namespace Rows

/-- THE TIED CARD OF 'signetlaw.RatchetBegins'. -/
def ratchetBeginsCard : Claim7 := { stood := { row := ratchetBeginsRow, standIns := [], harness := (true, "375e2a787b8c5ba8cca71ae4152779ba75c7a173f6f9d21bac4aa4eb3758671d"), looks := false }, kinds := [], alts := [], laidByText := true, laidKinds := [.data, .data, .data, .data, .data], laidTests := true, laidLooks := .later }
def RatchetBeginsCardSaid : Prop := Claim7.holds Tryd.pinned (.plain (OpenSpec.ofChange ratchetBeginsSpec)) ratchetBeginsCard

/-- THE SECOND FORM's CARD OF 'signetlaw.RatchetBegins'. -/
def ratchetBeginsUptoCard : Claim7 := { stood := { row := ratchetBeginsUptoRow, standIns := [], harness := (true, "375e2a787b8c5ba8cca71ae4152779ba75c7a173f6f9d21bac4aa4eb3758671d"), looks := false }, kinds := [], alts := [], laidByText := true, laidKinds := [.data, .data, .data, .data, .data], laidTests := true, laidLooks := .later }
def RatchetBeginsUptoCardSaid : Prop := Claim7.holds Tryd.pinned (.plain (OpenSpec.upto ratchetBeginsSpec)) ratchetBeginsUptoCard
end Rows
end Go.Proofs.YtlmbdhfkdhjcfaaDoor
