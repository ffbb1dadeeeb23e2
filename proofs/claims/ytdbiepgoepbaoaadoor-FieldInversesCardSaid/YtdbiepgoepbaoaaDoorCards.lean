/-
  DERIVED. GIVEN WITH THE SEED: THE CARDS: each row of YtdbiepgoepbaoaaDoorRows.lean that lists a variable, with what it lists TIED to the program's text (the seventh form; the later family's looks); each row that meets fmt, with fmt's text TOLD by the authors' own Lean function (tested against real Go, not proved from fmt's source: count such statements apart). THE CARD IS WHAT COUNTS. Prove the row's statement (the work); the ties are given (YtdbiepgoepbaoaaDoorTie.lean); close each card by the builder's one call (the guide's Derived/Test/ToyasCard.lean, 'card_holds'). Laid BY PROGRAM, IN A SANDBOX (cutbox-door.mjs). By AI agents, Wed Nov 11 2026. No macro, syntax, notation, axiom, sorry.
-/
import Derived.Test.YtdbiepgoepbaoaaDoorRows
import GoSem.ClaimSeven
namespace Go.Proofs.YtdbiepgoepbaoaaDoor
namespace Rows

/-- THE TIED CARD OF 'signetlaw.FieldBytes'. -/
def fieldBytesCard : Claim7 := { stood := { row := fieldBytesRow, standIns := [], harness := (true, "facaf00c1c4be4d697fec01f143cda8c483bdeed3f78cff49b1ce33dd5fb2f45"), looks := false }, kinds := [], alts := [], laidByText := true, laidKinds := [.data, .data], laidTests := true, laidLooks := .later }
def FieldBytesCardSaid : Prop := Claim7.holds Tryd.pinned (.plain (OpenSpec.ofChange fieldBytesSpec)) fieldBytesCard

/-- THE TIED CARD OF 'signetlaw.FieldSums'. -/
def fieldSumsCard : Claim7 := { stood := { row := fieldSumsRow, standIns := [], harness := (true, "facaf00c1c4be4d697fec01f143cda8c483bdeed3f78cff49b1ce33dd5fb2f45"), looks := false }, kinds := [], alts := [], laidByText := true, laidKinds := [.data, .data], laidTests := true, laidLooks := .later }
def FieldSumsCardSaid : Prop := Claim7.holds Tryd.pinned (.plain (OpenSpec.ofChange fieldSumsSpec)) fieldSumsCard

/-- THE TIED CARD OF 'signetlaw.FieldProducts'. -/
def fieldProductsCard : Claim7 := { stood := { row := fieldProductsRow, standIns := [], harness := (true, "facaf00c1c4be4d697fec01f143cda8c483bdeed3f78cff49b1ce33dd5fb2f45"), looks := false }, kinds := [], alts := [], laidByText := true, laidKinds := [.data, .data], laidTests := true, laidLooks := .later }
def FieldProductsCardSaid : Prop := Claim7.holds Tryd.pinned (.plain (OpenSpec.ofChange fieldProductsSpec)) fieldProductsCard

/-- THE TIED CARD OF 'signetlaw.FieldInverses'. -/
def fieldInversesCard : Claim7 := { stood := { row := fieldInversesRow, standIns := [], harness := (true, "facaf00c1c4be4d697fec01f143cda8c483bdeed3f78cff49b1ce33dd5fb2f45"), looks := false }, kinds := [], alts := [], laidByText := true, laidKinds := [.data, .data], laidTests := true, laidLooks := .later }
def FieldInversesCardSaid : Prop := Claim7.holds Tryd.pinned (.plain (OpenSpec.ofChange fieldInversesSpec)) fieldInversesCard

/-- THE SECOND FORM's CARD OF 'signetlaw.FieldBytes'. -/
def fieldBytesUptoCard : Claim7 := { stood := { row := fieldBytesUptoRow, standIns := [], harness := (true, "facaf00c1c4be4d697fec01f143cda8c483bdeed3f78cff49b1ce33dd5fb2f45"), looks := false }, kinds := [], alts := [], laidByText := true, laidKinds := [.data, .data], laidTests := true, laidLooks := .later }
def FieldBytesUptoCardSaid : Prop := Claim7.holds Tryd.pinned (.plain (OpenSpec.upto fieldBytesSpec)) fieldBytesUptoCard

/-- THE SECOND FORM's CARD OF 'signetlaw.FieldSums'. -/
def fieldSumsUptoCard : Claim7 := { stood := { row := fieldSumsUptoRow, standIns := [], harness := (true, "facaf00c1c4be4d697fec01f143cda8c483bdeed3f78cff49b1ce33dd5fb2f45"), looks := false }, kinds := [], alts := [], laidByText := true, laidKinds := [.data, .data], laidTests := true, laidLooks := .later }
def FieldSumsUptoCardSaid : Prop := Claim7.holds Tryd.pinned (.plain (OpenSpec.upto fieldSumsSpec)) fieldSumsUptoCard

/-- THE SECOND FORM's CARD OF 'signetlaw.FieldProducts'. -/
def fieldProductsUptoCard : Claim7 := { stood := { row := fieldProductsUptoRow, standIns := [], harness := (true, "facaf00c1c4be4d697fec01f143cda8c483bdeed3f78cff49b1ce33dd5fb2f45"), looks := false }, kinds := [], alts := [], laidByText := true, laidKinds := [.data, .data], laidTests := true, laidLooks := .later }
def FieldProductsUptoCardSaid : Prop := Claim7.holds Tryd.pinned (.plain (OpenSpec.upto fieldProductsSpec)) fieldProductsUptoCard

/-- THE SECOND FORM's CARD OF 'signetlaw.FieldInverses'. -/
def fieldInversesUptoCard : Claim7 := { stood := { row := fieldInversesUptoRow, standIns := [], harness := (true, "facaf00c1c4be4d697fec01f143cda8c483bdeed3f78cff49b1ce33dd5fb2f45"), looks := false }, kinds := [], alts := [], laidByText := true, laidKinds := [.data, .data], laidTests := true, laidLooks := .later }
def FieldInversesUptoCardSaid : Prop := Claim7.holds Tryd.pinned (.plain (OpenSpec.upto fieldInversesSpec)) fieldInversesUptoCard
end Rows
end Go.Proofs.YtdbiepgoepbaoaaDoor
