/-
  DERIVED. GIVEN WITH THE SEED: THE CARDS: each row of YtojdgfocpmlpfaaDoorRows.lean that lists a variable, with what it lists TIED to the program's text (the seventh form; the later family's looks); each row that meets fmt, with fmt's text TOLD by the authors' own Lean function (tested against real Go, not proved from fmt's source: count such statements apart). THE CARD IS WHAT COUNTS. Prove the row's statement (the work); the ties are given (YtojdgfocpmlpfaaDoorTie.lean); close each card by the builder's one call (the guide's Derived/Test/ToyasCard.lean, 'card_holds'). Laid BY PROGRAM, IN A SANDBOX (cutbox-door.mjs). By AI agents, Wed Nov 11 2026. No macro, syntax, notation, axiom, sorry.
-/
import Derived.Test.YtojdgfocpmlpfaaDoorRows
import GoSem.ClaimSeven
namespace Go.Proofs.YtojdgfocpmlpfaaDoor
namespace Rows

/-- THE TIED CARD OF 'signetlaw.BlakeEnds'. -/
def blakeEndsCard : Claim7 := { stood := { row := blakeEndsRow, standIns := [], harness := (true, "2d27346752e0c5246e5ee0dce44c2bdb92d21eceed23875380fd4dc6d50ac5b4"), looks := false }, kinds := [], alts := [], laidByText := true, laidKinds := [.data, .data, .data], laidTests := true, laidLooks := .later }
def BlakeEndsCardSaid : Prop := Claim7.holds Tryd.pinned (.plain (OpenSpec.ofChange blakeEndsSpec)) blakeEndsCard

/-- THE TIED CARD OF 'signetlaw.BlakeAdds'. -/
def blakeAddsCard : Claim7 := { stood := { row := blakeAddsRow, standIns := [], harness := (true, "2d27346752e0c5246e5ee0dce44c2bdb92d21eceed23875380fd4dc6d50ac5b4"), looks := false }, kinds := [], alts := [], laidByText := true, laidKinds := [.data, .data, .data], laidTests := true, laidLooks := .later }
def BlakeAddsCardSaid : Prop := Claim7.holds Tryd.pinned (.plain (OpenSpec.ofChange blakeAddsSpec)) blakeAddsCard

/-- THE TIED CARD OF 'signetlaw.BlakeSums'. -/
def blakeSumsCard : Claim7 := { stood := { row := blakeSumsRow, standIns := [], harness := (true, "2d27346752e0c5246e5ee0dce44c2bdb92d21eceed23875380fd4dc6d50ac5b4"), looks := false }, kinds := [], alts := [], laidByText := true, laidKinds := [.data, .data, .data], laidTests := true, laidLooks := .later }
def BlakeSumsCardSaid : Prop := Claim7.holds Tryd.pinned (.plain (OpenSpec.ofChange blakeSumsSpec)) blakeSumsCard

/-- THE TIED CARD OF 'signetlaw.KdfMacs'. -/
def kdfMacsCard : Claim7 := { stood := { row := kdfMacsRow, standIns := [], harness := (true, "2d27346752e0c5246e5ee0dce44c2bdb92d21eceed23875380fd4dc6d50ac5b4"), looks := false }, kinds := [], alts := [], laidByText := true, laidKinds := [.data, .data, .data], laidTests := true, laidLooks := .later }
def KdfMacsCardSaid : Prop := Claim7.holds Tryd.pinned (.plain (OpenSpec.ofChange kdfMacsSpec)) kdfMacsCard

/-- THE TIED CARD OF 'signetlaw.KdfKeys'. -/
def kdfKeysCard : Claim7 := { stood := { row := kdfKeysRow, standIns := [], harness := (true, "2d27346752e0c5246e5ee0dce44c2bdb92d21eceed23875380fd4dc6d50ac5b4"), looks := false }, kinds := [], alts := [], laidByText := true, laidKinds := [.data, .data, .data], laidTests := true, laidLooks := .later }
def KdfKeysCardSaid : Prop := Claim7.holds Tryd.pinned (.plain (OpenSpec.ofChange kdfKeysSpec)) kdfKeysCard

/-- THE TIED CARD OF 'signetlaw.SymBegins'. -/
def symBeginsCard : Claim7 := { stood := { row := symBeginsRow, standIns := [], harness := (true, "2d27346752e0c5246e5ee0dce44c2bdb92d21eceed23875380fd4dc6d50ac5b4"), looks := false }, kinds := [], alts := [], laidByText := true, laidKinds := [.data, .data, .data], laidTests := true, laidLooks := .later }
def SymBeginsCardSaid : Prop := Claim7.holds Tryd.pinned (.plain (OpenSpec.ofChange symBeginsSpec)) symBeginsCard

/-- THE TIED CARD OF 'signetlaw.SymMixes'. -/
def symMixesCard : Claim7 := { stood := { row := symMixesRow, standIns := [], harness := (true, "2d27346752e0c5246e5ee0dce44c2bdb92d21eceed23875380fd4dc6d50ac5b4"), looks := false }, kinds := [], alts := [], laidByText := true, laidKinds := [.data, .data, .data], laidTests := true, laidLooks := .later }
def SymMixesCardSaid : Prop := Claim7.holds Tryd.pinned (.plain (OpenSpec.ofChange symMixesSpec)) symMixesCard

/-- THE SECOND FORM's CARD OF 'signetlaw.BlakeEnds'. -/
def blakeEndsUptoCard : Claim7 := { stood := { row := blakeEndsUptoRow, standIns := [], harness := (true, "2d27346752e0c5246e5ee0dce44c2bdb92d21eceed23875380fd4dc6d50ac5b4"), looks := false }, kinds := [], alts := [], laidByText := true, laidKinds := [.data, .data, .data], laidTests := true, laidLooks := .later }
def BlakeEndsUptoCardSaid : Prop := Claim7.holds Tryd.pinned (.plain (OpenSpec.upto blakeEndsSpec)) blakeEndsUptoCard

/-- THE SECOND FORM's CARD OF 'signetlaw.BlakeAdds'. -/
def blakeAddsUptoCard : Claim7 := { stood := { row := blakeAddsUptoRow, standIns := [], harness := (true, "2d27346752e0c5246e5ee0dce44c2bdb92d21eceed23875380fd4dc6d50ac5b4"), looks := false }, kinds := [], alts := [], laidByText := true, laidKinds := [.data, .data, .data], laidTests := true, laidLooks := .later }
def BlakeAddsUptoCardSaid : Prop := Claim7.holds Tryd.pinned (.plain (OpenSpec.upto blakeAddsSpec)) blakeAddsUptoCard

/-- THE SECOND FORM's CARD OF 'signetlaw.BlakeSums'. -/
def blakeSumsUptoCard : Claim7 := { stood := { row := blakeSumsUptoRow, standIns := [], harness := (true, "2d27346752e0c5246e5ee0dce44c2bdb92d21eceed23875380fd4dc6d50ac5b4"), looks := false }, kinds := [], alts := [], laidByText := true, laidKinds := [.data, .data, .data], laidTests := true, laidLooks := .later }
def BlakeSumsUptoCardSaid : Prop := Claim7.holds Tryd.pinned (.plain (OpenSpec.upto blakeSumsSpec)) blakeSumsUptoCard

/-- THE SECOND FORM's CARD OF 'signetlaw.KdfMacs'. -/
def kdfMacsUptoCard : Claim7 := { stood := { row := kdfMacsUptoRow, standIns := [], harness := (true, "2d27346752e0c5246e5ee0dce44c2bdb92d21eceed23875380fd4dc6d50ac5b4"), looks := false }, kinds := [], alts := [], laidByText := true, laidKinds := [.data, .data, .data], laidTests := true, laidLooks := .later }
def KdfMacsUptoCardSaid : Prop := Claim7.holds Tryd.pinned (.plain (OpenSpec.upto kdfMacsSpec)) kdfMacsUptoCard

/-- THE SECOND FORM's CARD OF 'signetlaw.KdfKeys'. -/
def kdfKeysUptoCard : Claim7 := { stood := { row := kdfKeysUptoRow, standIns := [], harness := (true, "2d27346752e0c5246e5ee0dce44c2bdb92d21eceed23875380fd4dc6d50ac5b4"), looks := false }, kinds := [], alts := [], laidByText := true, laidKinds := [.data, .data, .data], laidTests := true, laidLooks := .later }
def KdfKeysUptoCardSaid : Prop := Claim7.holds Tryd.pinned (.plain (OpenSpec.upto kdfKeysSpec)) kdfKeysUptoCard

/-- THE SECOND FORM's CARD OF 'signetlaw.SymBegins'. -/
def symBeginsUptoCard : Claim7 := { stood := { row := symBeginsUptoRow, standIns := [], harness := (true, "2d27346752e0c5246e5ee0dce44c2bdb92d21eceed23875380fd4dc6d50ac5b4"), looks := false }, kinds := [], alts := [], laidByText := true, laidKinds := [.data, .data, .data], laidTests := true, laidLooks := .later }
def SymBeginsUptoCardSaid : Prop := Claim7.holds Tryd.pinned (.plain (OpenSpec.upto symBeginsSpec)) symBeginsUptoCard

/-- THE SECOND FORM's CARD OF 'signetlaw.SymMixes'. -/
def symMixesUptoCard : Claim7 := { stood := { row := symMixesUptoRow, standIns := [], harness := (true, "2d27346752e0c5246e5ee0dce44c2bdb92d21eceed23875380fd4dc6d50ac5b4"), looks := false }, kinds := [], alts := [], laidByText := true, laidKinds := [.data, .data, .data], laidTests := true, laidLooks := .later }
def SymMixesUptoCardSaid : Prop := Claim7.holds Tryd.pinned (.plain (OpenSpec.upto symMixesSpec)) symMixesUptoCard
end Rows
end Go.Proofs.YtojdgfocpmlpfaaDoor
