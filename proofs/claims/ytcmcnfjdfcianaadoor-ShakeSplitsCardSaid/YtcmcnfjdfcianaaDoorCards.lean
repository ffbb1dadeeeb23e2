/-
  DERIVED. GIVEN WITH THE SEED: THE CARDS: each row of YtcmcnfjdfcianaaDoorRows.lean that lists a variable, with what it lists TIED to the program's text (the seventh form; the later family's looks); each row that meets fmt, with fmt's text TOLD by the authors' own Lean function (tested against real Go, not proved from fmt's source: count such statements apart). THE CARD IS WHAT COUNTS. Prove the row's statement (the work); the ties are given (YtcmcnfjdfcianaaDoorTie.lean); close each card by the builder's one call (the guide's Derived/Test/ToyasCard.lean, 'card_holds'). Laid BY PROGRAM, IN A SANDBOX (cutbox-door.mjs). By AI agents, Wed Nov 11 2026. No macro, syntax, notation, axiom, sorry.
-/
import Derived.Test.YtcmcnfjdfcianaaDoorRows
import GoSem.ClaimSeven
namespace Go.Proofs.YtcmcnfjdfcianaaDoor
namespace Rows

/-- THE TIED CARD OF 'signetlaw.SymSeals'. -/
def symSealsCard : Claim7 := { stood := { row := symSealsRow, standIns := [], harness := (true, "9d0d8393ac5db349cbb3ffa289edfa165fd6589b5b2250ef3bcaba9d34abbc47"), looks := false }, kinds := [], alts := [], laidByText := true, laidKinds := [.data, .data, .data], laidTests := true, laidLooks := .later }
def SymSealsCardSaid : Prop := Claim7.holds Tryd.pinned (.plain (OpenSpec.ofChange symSealsSpec)) symSealsCard

/-- THE TIED CARD OF 'signetlaw.ShakeSplits'. -/
def shakeSplitsCard : Claim7 := { stood := { row := shakeSplitsRow, standIns := [], harness := (true, "9d0d8393ac5db349cbb3ffa289edfa165fd6589b5b2250ef3bcaba9d34abbc47"), looks := false }, kinds := [], alts := [], laidByText := true, laidKinds := [.data, .data, .data], laidTests := true, laidLooks := .later }
def ShakeSplitsCardSaid : Prop := Claim7.holds Tryd.pinned (.plain (OpenSpec.ofChange shakeSplitsSpec)) shakeSplitsCard

/-- THE SECOND FORM's CARD OF 'signetlaw.SymSeals'. -/
def symSealsUptoCard : Claim7 := { stood := { row := symSealsUptoRow, standIns := [], harness := (true, "9d0d8393ac5db349cbb3ffa289edfa165fd6589b5b2250ef3bcaba9d34abbc47"), looks := false }, kinds := [], alts := [], laidByText := true, laidKinds := [.data, .data, .data], laidTests := true, laidLooks := .later }
def SymSealsUptoCardSaid : Prop := Claim7.holds Tryd.pinned (.plain (OpenSpec.upto symSealsSpec)) symSealsUptoCard

/-- THE SECOND FORM's CARD OF 'signetlaw.ShakeSplits'. -/
def shakeSplitsUptoCard : Claim7 := { stood := { row := shakeSplitsUptoRow, standIns := [], harness := (true, "9d0d8393ac5db349cbb3ffa289edfa165fd6589b5b2250ef3bcaba9d34abbc47"), looks := false }, kinds := [], alts := [], laidByText := true, laidKinds := [.data, .data, .data], laidTests := true, laidLooks := .later }
def ShakeSplitsUptoCardSaid : Prop := Claim7.holds Tryd.pinned (.plain (OpenSpec.upto shakeSplitsSpec)) shakeSplitsUptoCard
end Rows
end Go.Proofs.YtcmcnfjdfcianaaDoor
