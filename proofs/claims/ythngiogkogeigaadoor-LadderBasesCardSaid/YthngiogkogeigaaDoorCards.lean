/-
  DERIVED. GIVEN WITH THE SEED: THE CARDS: each row of YthngiogkogeigaaDoorRows.lean that lists a variable, with what it lists TIED to the program's text (the seventh form; the later family's looks); each row that meets fmt, with fmt's text TOLD by the authors' own Lean function (tested against real Go, not proved from fmt's source: count such statements apart). THE CARD IS WHAT COUNTS. Prove the row's statement (the work); the ties are given (YthngiogkogeigaaDoorTie.lean); close each card by the builder's one call (the guide's Derived/Test/ToyasCard.lean, 'card_holds'). Laid BY PROGRAM, IN A SANDBOX (cutbox-door.mjs). By AI agents, Wed Nov 11 2026. No macro, syntax, notation, axiom, sorry.
-/
import Derived.Test.YthngiogkogeigaaDoorRows
import GoSem.ClaimSeven
namespace Go.Proofs.YthngiogkogeigaaDoor
namespace Rows

/-- THE TIED CARD OF 'signetlaw.LadderMults'. -/
def ladderMultsCard : Claim7 := { stood := { row := ladderMultsRow, standIns := [], harness := (true, "dfebad8b57858a9e259cdbabb127da3aad2d5843982f7793d031b3ed58c80214"), looks := false }, kinds := [], alts := [], laidByText := true, laidKinds := [.data, .data], laidTests := true, laidLooks := .later }
def LadderMultsCardSaid : Prop := Claim7.holds Tryd.pinned (.plain (OpenSpec.ofChange ladderMultsSpec)) ladderMultsCard

/-- THE TIED CARD OF 'signetlaw.LadderBases'. -/
def ladderBasesCard : Claim7 := { stood := { row := ladderBasesRow, standIns := [], harness := (true, "dfebad8b57858a9e259cdbabb127da3aad2d5843982f7793d031b3ed58c80214"), looks := false }, kinds := [], alts := [], laidByText := true, laidKinds := [.data, .data], laidTests := true, laidLooks := .later }
def LadderBasesCardSaid : Prop := Claim7.holds Tryd.pinned (.plain (OpenSpec.ofChange ladderBasesSpec)) ladderBasesCard

/-- THE SECOND FORM's CARD OF 'signetlaw.LadderMults'. -/
def ladderMultsUptoCard : Claim7 := { stood := { row := ladderMultsUptoRow, standIns := [], harness := (true, "dfebad8b57858a9e259cdbabb127da3aad2d5843982f7793d031b3ed58c80214"), looks := false }, kinds := [], alts := [], laidByText := true, laidKinds := [.data, .data], laidTests := true, laidLooks := .later }
def LadderMultsUptoCardSaid : Prop := Claim7.holds Tryd.pinned (.plain (OpenSpec.upto ladderMultsSpec)) ladderMultsUptoCard

/-- THE SECOND FORM's CARD OF 'signetlaw.LadderBases'. -/
def ladderBasesUptoCard : Claim7 := { stood := { row := ladderBasesUptoRow, standIns := [], harness := (true, "dfebad8b57858a9e259cdbabb127da3aad2d5843982f7793d031b3ed58c80214"), looks := false }, kinds := [], alts := [], laidByText := true, laidKinds := [.data, .data], laidTests := true, laidLooks := .later }
def LadderBasesUptoCardSaid : Prop := Claim7.holds Tryd.pinned (.plain (OpenSpec.upto ladderBasesSpec)) ladderBasesUptoCard
end Rows
end Go.Proofs.YthngiogkogeigaaDoor
