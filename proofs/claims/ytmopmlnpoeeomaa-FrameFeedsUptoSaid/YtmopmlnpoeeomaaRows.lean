/-
  NARROWER THAN 'FOR EVERY INPUT', by the rows' own cells (each row's printed sentence says how): TermChecks: loops.
  DERIVED. THE GIVEN ROWS OF THIS SEAT. 9 by the template 'for every input the law returns true; each argument reads behind the call as it read before'; 0 by the template 'total and deterministic' (their statements: YtmopmlnpoeeomaaTotals.lean).
  GIVEN WITH THE SEED: the statements are not yours to turn. If you find one false, say at which input.
  Laid BY PROGRAM, IN A SANDBOX (cutbox-rows.mjs): the forced cells as the released guide's own fill.sh prints them over the translation 3c45693146d63a86… (all of the seat's roots in one cut). By AI agents, Wed Nov 11 2026. No macro, syntax, notation, axiom, sorry.
-/
import Derived.Test.YtmopmlnpoeeomaaChecked
import GoSem.Claim
import GoSem.ClaimJoined
import GoSem.ClaimMapViews
import Derived.JoinedTies
import Derived.KernelRfl
namespace Go.Proofs.Ytmopmlnpoeeomaa
/- THE CELL 'sum', in the pinned program and in every row, IS THE sha256 OF THE DUMP (.gsa) THAT YtmopmlnpoeeomaaProg.lean LOADS. Nothing in Lean hashes anything: it is a label: what it is worth is what the hold of that sum in a sandbox is worth. -/
noncomputable def Try.pinned : Pinned := { name := "ytmopmlnpoeeomaa", sum := "3c45693146d63a860c05e21cf0c49544e4896f9c7b4cf4233bf3e3f7d10e519c", checked := Try.checked }
namespace Rows
def none {H : Type} : Left H := { results := [], args := [] }

/-- 'signetlaw.CipherChecks': WHATEVER THE INPUT: true; the input reads as it did. -/
def cipherChecksSpec : ChangeSpec := { name := "cipherChecks", fn := fun _ => fun
  | [d1, d2] => { results := [.lit (.bool true)], args := [d1, d2] }
  | _ => none }
def cipherChecksRow : OpenClaim := { program := "ytmopmlnpoeeomaa", sum := "3c45693146d63a860c05e21cf0c49544e4896f9c7b4cf4233bf3e3f7d10e519c", func := "signet/signetlaw.CipherChecks", spec := "cipherChecks", apart := false }
def CipherChecksSaid : Prop := cipherChecksRow.holds Try.pinned (OpenSpec.ofChange cipherChecksSpec)

/-- ITS FALSE NEIGHBOUR: 'it returns false'. Refute it at one input. -/
def cipherChecksWrong : ChangeSpec := { name := "cipherChecks", fn := fun _ => fun
  | [d1, d2] => { results := [.lit (.bool false)], args := [d1, d2] }
  | _ => none }
def CipherChecksWrongFalsely : Prop := cipherChecksRow.holds Try.pinned (OpenSpec.ofChange cipherChecksWrong)

/-- 'signetlaw.RatchetHeads': WHATEVER THE INPUT: true; the input reads as it did. -/
def ratchetHeadsSpec : ChangeSpec := { name := "ratchetHeads", fn := fun _ => fun
  | [d] => { results := [.lit (.bool true)], args := [d] }
  | _ => none }
def ratchetHeadsRow : OpenClaim := { program := "ytmopmlnpoeeomaa", sum := "3c45693146d63a860c05e21cf0c49544e4896f9c7b4cf4233bf3e3f7d10e519c", func := "signet/signetlaw.RatchetHeads", spec := "ratchetHeads", apart := false }
def RatchetHeadsSaid : Prop := ratchetHeadsRow.holds Try.pinned (OpenSpec.ofChange ratchetHeadsSpec)

/-- ITS FALSE NEIGHBOUR: 'it returns false'. Refute it at one input. -/
def ratchetHeadsWrong : ChangeSpec := { name := "ratchetHeads", fn := fun _ => fun
  | [d] => { results := [.lit (.bool false)], args := [d] }
  | _ => none }
def RatchetHeadsWrongFalsely : Prop := ratchetHeadsRow.holds Try.pinned (OpenSpec.ofChange ratchetHeadsWrong)

/-- 'signetlaw.PinsEncodes': WHATEVER THE INPUT: true; the input reads as it did. -/
def pinsEncodesSpec : ChangeSpec := { name := "pinsEncodes", fn := fun _ => fun
  | [d] => { results := [.lit (.bool true)], args := [d] }
  | _ => none }
def pinsEncodesRow : OpenClaim := { program := "ytmopmlnpoeeomaa", sum := "3c45693146d63a860c05e21cf0c49544e4896f9c7b4cf4233bf3e3f7d10e519c", func := "signet/signetlaw.PinsEncodes", spec := "pinsEncodes", apart := false }
def PinsEncodesSaid : Prop := pinsEncodesRow.holds Try.pinned (OpenSpec.ofChange pinsEncodesSpec)

/-- ITS FALSE NEIGHBOUR: 'it returns false'. Refute it at one input. -/
def pinsEncodesWrong : ChangeSpec := { name := "pinsEncodes", fn := fun _ => fun
  | [d] => { results := [.lit (.bool false)], args := [d] }
  | _ => none }
def PinsEncodesWrongFalsely : Prop := pinsEncodesRow.holds Try.pinned (OpenSpec.ofChange pinsEncodesWrong)

/-- 'signetlaw.FrameFeeds': WHATEVER THE INPUT: true; the input reads as it did. -/
def frameFeedsSpec : ChangeSpec := { name := "frameFeeds", fn := fun _ => fun
  | [d1, d2] => { results := [.lit (.bool true)], args := [d1, d2] }
  | _ => none }
def frameFeedsRow : OpenClaim := { program := "ytmopmlnpoeeomaa", sum := "3c45693146d63a860c05e21cf0c49544e4896f9c7b4cf4233bf3e3f7d10e519c", func := "signet/signetlaw.FrameFeeds", spec := "frameFeeds", apart := false }
def FrameFeedsSaid : Prop := frameFeedsRow.holds Try.pinned (OpenSpec.ofChange frameFeedsSpec)

/-- ITS FALSE NEIGHBOUR: 'it returns false'. Refute it at one input. -/
def frameFeedsWrong : ChangeSpec := { name := "frameFeeds", fn := fun _ => fun
  | [d1, d2] => { results := [.lit (.bool false)], args := [d1, d2] }
  | _ => none }
def FrameFeedsWrongFalsely : Prop := frameFeedsRow.holds Try.pinned (OpenSpec.ofChange frameFeedsWrong)

/-- 'signetlaw.PinsFinds': WHATEVER THE INPUT: true; the input reads as it did. -/
def pinsFindsSpec : ChangeSpec := { name := "pinsFinds", fn := fun _ => fun
  | [d1, d2] => { results := [.lit (.bool true)], args := [d1, d2] }
  | _ => none }
def pinsFindsRow : OpenClaim := { program := "ytmopmlnpoeeomaa", sum := "3c45693146d63a860c05e21cf0c49544e4896f9c7b4cf4233bf3e3f7d10e519c", func := "signet/signetlaw.PinsFinds", spec := "pinsFinds", unfollowed := true, recurses := true, apart := false }
def PinsFindsSaid : Prop := pinsFindsRow.holds Try.pinned (OpenSpec.ofChange pinsFindsSpec)

/-- ITS FALSE NEIGHBOUR: 'it returns false'. Refute it at one input. -/
def pinsFindsWrong : ChangeSpec := { name := "pinsFinds", fn := fun _ => fun
  | [d1, d2] => { results := [.lit (.bool false)], args := [d1, d2] }
  | _ => none }
def PinsFindsWrongFalsely : Prop := pinsFindsRow.holds Try.pinned (OpenSpec.ofChange pinsFindsWrong)

/-- 'signetlaw.PinsDecodes': WHATEVER THE INPUT: true; the input reads as it did. -/
def pinsDecodesSpec : ChangeSpec := { name := "pinsDecodes", fn := fun _ => fun
  | [d] => { results := [.lit (.bool true)], args := [d] }
  | _ => none }
def pinsDecodesRow : OpenClaim := { program := "ytmopmlnpoeeomaa", sum := "3c45693146d63a860c05e21cf0c49544e4896f9c7b4cf4233bf3e3f7d10e519c", func := "signet/signetlaw.PinsDecodes", spec := "pinsDecodes", apart := false }
def PinsDecodesSaid : Prop := pinsDecodesRow.holds Try.pinned (OpenSpec.ofChange pinsDecodesSpec)

/-- ITS FALSE NEIGHBOUR: 'it returns false'. Refute it at one input. -/
def pinsDecodesWrong : ChangeSpec := { name := "pinsDecodes", fn := fun _ => fun
  | [d] => { results := [.lit (.bool false)], args := [d] }
  | _ => none }
def PinsDecodesWrongFalsely : Prop := pinsDecodesRow.holds Try.pinned (OpenSpec.ofChange pinsDecodesWrong)

/-- 'signetlaw.PinsTrusts': WHATEVER THE INPUT: true; the input reads as it did. -/
def pinsTrustsSpec : ChangeSpec := { name := "pinsTrusts", fn := fun _ => fun
  | [d1, d2, d3] => { results := [.lit (.bool true)], args := [d1, d2, d3] }
  | _ => none }
def pinsTrustsRow : OpenClaim := { program := "ytmopmlnpoeeomaa", sum := "3c45693146d63a860c05e21cf0c49544e4896f9c7b4cf4233bf3e3f7d10e519c", func := "signet/signetlaw.PinsTrusts", spec := "pinsTrusts", unfollowed := true, recurses := true, apart := false }
def PinsTrustsSaid : Prop := pinsTrustsRow.holds Try.pinned (OpenSpec.ofChange pinsTrustsSpec)

/-- ITS FALSE NEIGHBOUR: 'it returns false'. Refute it at one input. -/
def pinsTrustsWrong : ChangeSpec := { name := "pinsTrusts", fn := fun _ => fun
  | [d1, d2, d3] => { results := [.lit (.bool false)], args := [d1, d2, d3] }
  | _ => none }
def PinsTrustsWrongFalsely : Prop := pinsTrustsRow.holds Try.pinned (OpenSpec.ofChange pinsTrustsWrong)

/-- 'signetlaw.PinsTurns': WHATEVER THE INPUT: true; the input reads as it did. -/
def pinsTurnsSpec : ChangeSpec := { name := "pinsTurns", fn := fun _ => fun
  | [d1, d2, d3] => { results := [.lit (.bool true)], args := [d1, d2, d3] }
  | _ => none }
def pinsTurnsRow : OpenClaim := { program := "ytmopmlnpoeeomaa", sum := "3c45693146d63a860c05e21cf0c49544e4896f9c7b4cf4233bf3e3f7d10e519c", func := "signet/signetlaw.PinsTurns", spec := "pinsTurns", unfollowed := true, recurses := true, apart := false }
def PinsTurnsSaid : Prop := pinsTurnsRow.holds Try.pinned (OpenSpec.ofChange pinsTurnsSpec)

/-- ITS FALSE NEIGHBOUR: 'it returns false'. Refute it at one input. -/
def pinsTurnsWrong : ChangeSpec := { name := "pinsTurns", fn := fun _ => fun
  | [d1, d2, d3] => { results := [.lit (.bool false)], args := [d1, d2, d3] }
  | _ => none }
def PinsTurnsWrongFalsely : Prop := pinsTurnsRow.holds Try.pinned (OpenSpec.ofChange pinsTurnsWrong)

/-- 'signetlaw.TermChecks': WHATEVER THE INPUT: true; the input reads as it did. -/
def termChecksSpec : ChangeSpec := { name := "termChecks", fn := fun _ => fun
  | [d1, d2] => { results := [.lit (.bool true)], args := [d1, d2] }
  | _ => none }
def termChecksRow : OpenClaim := { program := "ytmopmlnpoeeomaa", sum := "3c45693146d63a860c05e21cf0c49544e4896f9c7b4cf4233bf3e3f7d10e519c", func := "signet/signetlaw.TermChecks", spec := "termChecks", recurses := true, loops := true, apart := false }
def TermChecksSaid : Prop := termChecksRow.holds Try.pinned (OpenSpec.ofChange termChecksSpec)

/-- ITS FALSE NEIGHBOUR: 'it returns false'. Refute it at one input. -/
def termChecksWrong : ChangeSpec := { name := "termChecks", fn := fun _ => fun
  | [d1, d2] => { results := [.lit (.bool false)], args := [d1, d2] }
  | _ => none }
def TermChecksWrongFalsely : Prop := termChecksRow.holds Try.pinned (OpenSpec.ofChange termChecksWrong)

/- THE SECOND FORM. 'bulk': how many values and letters a reading holds, each counted each time it is reached (what is shared counts as often as it is met; a slice's spare places count too). A statement '..UptoSaid' is the law's where the arguments, and the package variables that the reading takes, are together of bulk at most 1048576: NARROWER than '..Said'. Prove '..Said' where nothing that the law and all that it calls make is longer than what came in: it says more and counts as full. Else prove '..UptoSaid'. A law counts once. -/
mutual
def uptoBulk {H : Type} : DataW H → Nat
  | .lit (.string bytes) => bytes.length + 1
  | .lit _ => 1
  | .nil => 1
  | .ptr d => uptoBulk d + 1
  | .slice elems spare => uptoBulkAll elems + uptoBulkAll spare + 1
  | .agg parts => uptoBulkAll parts + 1
  | .iface _ d => uptoBulk d + 1
  | .map entries => uptoBulkEntries entries + 1
  | .held _ => 1
def uptoBulkAll {H : Type} : List (DataW H) → Nat
  | [] => 0
  | d :: r => uptoBulk d + uptoBulkAll r
def uptoBulkEntries {H : Type} : List (Lit × DataW H) → Nat
  | [] => 0
  | x :: r => uptoBulkEntry x + uptoBulkEntries r
def uptoBulkEntry {H : Type} : Lit × DataW H → Nat
  | (.string bytes, d) => bytes.length + uptoBulk d + 1
  | (_, d) => uptoBulk d + 1
 end
def uptoSmall : (H : Type) → List (DataW H) → Bool := fun _ ds => decide (uptoBulkAll ds ≤ 1048576)
def OpenSpec.upto (s : _root_.Go.ChangeSpec) : _root_.Go.OpenSpec := { _root_.Go.OpenSpec.ofChange s with cond := some uptoSmall }

/-- 'signetlaw.CipherChecks', WHERE WHAT IT READS IS OF BULK AT MOST 1048576: true; the input reads as it did. -/
def cipherChecksUptoRow : OpenClaim := { program := "ytmopmlnpoeeomaa", sum := "3c45693146d63a860c05e21cf0c49544e4896f9c7b4cf4233bf3e3f7d10e519c", func := "signet/signetlaw.CipherChecks", spec := "cipherChecks", apart := false, narrowed := true }
def CipherChecksUptoSaid : Prop := cipherChecksUptoRow.holds Try.pinned (OpenSpec.upto cipherChecksSpec)

/-- 'signetlaw.RatchetHeads', WHERE WHAT IT READS IS OF BULK AT MOST 1048576: true; the input reads as it did. -/
def ratchetHeadsUptoRow : OpenClaim := { program := "ytmopmlnpoeeomaa", sum := "3c45693146d63a860c05e21cf0c49544e4896f9c7b4cf4233bf3e3f7d10e519c", func := "signet/signetlaw.RatchetHeads", spec := "ratchetHeads", apart := false, narrowed := true }
def RatchetHeadsUptoSaid : Prop := ratchetHeadsUptoRow.holds Try.pinned (OpenSpec.upto ratchetHeadsSpec)

/-- 'signetlaw.PinsEncodes', WHERE WHAT IT READS IS OF BULK AT MOST 1048576: true; the input reads as it did. -/
def pinsEncodesUptoRow : OpenClaim := { program := "ytmopmlnpoeeomaa", sum := "3c45693146d63a860c05e21cf0c49544e4896f9c7b4cf4233bf3e3f7d10e519c", func := "signet/signetlaw.PinsEncodes", spec := "pinsEncodes", apart := false, narrowed := true }
def PinsEncodesUptoSaid : Prop := pinsEncodesUptoRow.holds Try.pinned (OpenSpec.upto pinsEncodesSpec)

/-- 'signetlaw.FrameFeeds', WHERE WHAT IT READS IS OF BULK AT MOST 1048576: true; the input reads as it did. -/
def frameFeedsUptoRow : OpenClaim := { program := "ytmopmlnpoeeomaa", sum := "3c45693146d63a860c05e21cf0c49544e4896f9c7b4cf4233bf3e3f7d10e519c", func := "signet/signetlaw.FrameFeeds", spec := "frameFeeds", apart := false, narrowed := true }
def FrameFeedsUptoSaid : Prop := frameFeedsUptoRow.holds Try.pinned (OpenSpec.upto frameFeedsSpec)

/-- 'signetlaw.PinsFinds', WHERE WHAT IT READS IS OF BULK AT MOST 1048576: true; the input reads as it did. -/
def pinsFindsUptoRow : OpenClaim := { program := "ytmopmlnpoeeomaa", sum := "3c45693146d63a860c05e21cf0c49544e4896f9c7b4cf4233bf3e3f7d10e519c", func := "signet/signetlaw.PinsFinds", spec := "pinsFinds", unfollowed := true, recurses := true, apart := false, narrowed := true }
def PinsFindsUptoSaid : Prop := pinsFindsUptoRow.holds Try.pinned (OpenSpec.upto pinsFindsSpec)

/-- 'signetlaw.PinsDecodes', WHERE WHAT IT READS IS OF BULK AT MOST 1048576: true; the input reads as it did. -/
def pinsDecodesUptoRow : OpenClaim := { program := "ytmopmlnpoeeomaa", sum := "3c45693146d63a860c05e21cf0c49544e4896f9c7b4cf4233bf3e3f7d10e519c", func := "signet/signetlaw.PinsDecodes", spec := "pinsDecodes", apart := false, narrowed := true }
def PinsDecodesUptoSaid : Prop := pinsDecodesUptoRow.holds Try.pinned (OpenSpec.upto pinsDecodesSpec)

/-- 'signetlaw.PinsTrusts', WHERE WHAT IT READS IS OF BULK AT MOST 1048576: true; the input reads as it did. -/
def pinsTrustsUptoRow : OpenClaim := { program := "ytmopmlnpoeeomaa", sum := "3c45693146d63a860c05e21cf0c49544e4896f9c7b4cf4233bf3e3f7d10e519c", func := "signet/signetlaw.PinsTrusts", spec := "pinsTrusts", unfollowed := true, recurses := true, apart := false, narrowed := true }
def PinsTrustsUptoSaid : Prop := pinsTrustsUptoRow.holds Try.pinned (OpenSpec.upto pinsTrustsSpec)

/-- 'signetlaw.PinsTurns', WHERE WHAT IT READS IS OF BULK AT MOST 1048576: true; the input reads as it did. -/
def pinsTurnsUptoRow : OpenClaim := { program := "ytmopmlnpoeeomaa", sum := "3c45693146d63a860c05e21cf0c49544e4896f9c7b4cf4233bf3e3f7d10e519c", func := "signet/signetlaw.PinsTurns", spec := "pinsTurns", unfollowed := true, recurses := true, apart := false, narrowed := true }
def PinsTurnsUptoSaid : Prop := pinsTurnsUptoRow.holds Try.pinned (OpenSpec.upto pinsTurnsSpec)

/-- 'signetlaw.TermChecks', WHERE WHAT IT READS IS OF BULK AT MOST 1048576: true; the input reads as it did. -/
def termChecksUptoRow : OpenClaim := { program := "ytmopmlnpoeeomaa", sum := "3c45693146d63a860c05e21cf0c49544e4896f9c7b4cf4233bf3e3f7d10e519c", func := "signet/signetlaw.TermChecks", spec := "termChecks", recurses := true, loops := true, apart := false, narrowed := true }
def TermChecksUptoSaid : Prop := termChecksUptoRow.holds Try.pinned (OpenSpec.upto termChecksSpec)

end Rows
end Go.Proofs.Ytmopmlnpoeeomaa
