/-
  DERIVED. GIVEN WITH THE SEED: THE CARDS: each row of YtbfllkipgfpkkaaDoorRows.lean that lists a variable, with what it lists TIED to the program's text (the seventh form; the later family's looks); each row that meets fmt, with fmt's text TOLD by the authors' own Lean function (tested against real Go, not proved from fmt's source: count such statements apart). THE CARD IS WHAT COUNTS. Prove the row's statement (the work); the ties are given (YtbfllkipgfpkkaaDoorTie.lean); close each card by the builder's one call (the guide's Derived/Test/ToyasCard.lean, 'card_holds'). Laid BY PROGRAM, IN A SANDBOX (cutbox-door.mjs). By AI agents, Wed Nov 11 2026. No macro, syntax, notation, axiom, sorry.
-/
import Derived.Test.YtbfllkipgfpkkaaDoorRows
import GoSem.ClaimSeven
namespace Go.Proofs.YtbfllkipgfpkkaaDoor
namespace Rows

/-- THE TIED CARD OF 'signetlaw.PatternWiths'. -/
def patternWithsCard : Claim7 := { stood := { row := patternWithsRow, standIns := [], harness := (true, "c17f7fa920b37b3a75860f84f12f94372db12d2d4a30f51ede883d348f7ec4fa"), looks := false }, kinds := [], alts := [], laidByText := true, laidKinds := [.data, .listed, .data, .pinned], laidTests := true, laidLooks := .later }
def PatternWithsCardSaid : Prop := Claim7.holds Tryd.pinned (.plain (OpenSpec.ofChange patternWithsSpec)) patternWithsCard

/-- THE TIED CARD OF 'signetlaw.PatternParses'. -/
def patternParsesCard : Claim7 := { stood := { row := patternParsesRow, standIns := [], harness := (true, "c17f7fa920b37b3a75860f84f12f94372db12d2d4a30f51ede883d348f7ec4fa"), looks := false }, kinds := [], alts := [], laidByText := true, laidKinds := [.data, .listed, .data, .pinned], laidTests := true, laidLooks := .later }
def PatternParsesCardSaid : Prop := Claim7.holds Tryd.pinned (.plain (OpenSpec.ofChange patternParsesSpec)) patternParsesCard

/-- THE TIED CARD OF 'signetlaw.PatternShows'. -/
def patternShowsCard : Claim7 := { stood := { row := patternShowsRow, standIns := [], harness := (true, "c17f7fa920b37b3a75860f84f12f94372db12d2d4a30f51ede883d348f7ec4fa"), looks := false }, kinds := [], alts := [], laidByText := true, laidKinds := [.data, .listed, .data, .pinned], laidTests := true, laidLooks := .later }
def PatternShowsCardSaid : Prop := Claim7.holds Tryd.pinned (.plain (OpenSpec.ofChange patternShowsSpec)) patternShowsCard

/-- THE SECOND FORM's CARD OF 'signetlaw.PatternWiths'. -/
def patternWithsUptoCard : Claim7 := { stood := { row := patternWithsUptoRow, standIns := [], harness := (true, "c17f7fa920b37b3a75860f84f12f94372db12d2d4a30f51ede883d348f7ec4fa"), looks := false }, kinds := [], alts := [], laidByText := true, laidKinds := [.data, .listed, .data, .pinned], laidTests := true, laidLooks := .later }
def PatternWithsUptoCardSaid : Prop := Claim7.holds Tryd.pinned (.plain (OpenSpec.upto patternWithsSpec)) patternWithsUptoCard

/-- THE SECOND FORM's CARD OF 'signetlaw.PatternParses'. -/
def patternParsesUptoCard : Claim7 := { stood := { row := patternParsesUptoRow, standIns := [], harness := (true, "c17f7fa920b37b3a75860f84f12f94372db12d2d4a30f51ede883d348f7ec4fa"), looks := false }, kinds := [], alts := [], laidByText := true, laidKinds := [.data, .listed, .data, .pinned], laidTests := true, laidLooks := .later }
def PatternParsesUptoCardSaid : Prop := Claim7.holds Tryd.pinned (.plain (OpenSpec.upto patternParsesSpec)) patternParsesUptoCard

/-- THE SECOND FORM's CARD OF 'signetlaw.PatternShows'. -/
def patternShowsUptoCard : Claim7 := { stood := { row := patternShowsUptoRow, standIns := [], harness := (true, "c17f7fa920b37b3a75860f84f12f94372db12d2d4a30f51ede883d348f7ec4fa"), looks := false }, kinds := [], alts := [], laidByText := true, laidKinds := [.data, .listed, .data, .pinned], laidTests := true, laidLooks := .later }
def PatternShowsUptoCardSaid : Prop := Claim7.holds Tryd.pinned (.plain (OpenSpec.upto patternShowsSpec)) patternShowsUptoCard
end Rows
end Go.Proofs.YtbfllkipgfpkkaaDoor
