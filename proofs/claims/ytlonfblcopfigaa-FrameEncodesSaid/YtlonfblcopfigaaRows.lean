/-
  No cell of these rows narrows 'for every input' (looked for: loops, veiled, ifaces, maps, wideKeys, modest, calm, conditions, laid).
  DERIVED. THE GIVEN ROWS OF THIS SEAT. 4 by the template 'for every input the law returns true; each argument reads behind the call as it read before'; 0 by the template 'total and deterministic' (their statements: YtlonfblcopfigaaTotals.lean).
  GIVEN WITH THE SEED: the statements are not yours to turn. If you find one false, say at which input.
  Laid BY PROGRAM, IN A SANDBOX (cutbox-rows.mjs): the forced cells as the released guide's own fill.sh prints them over the translation 77f224c126d1101f… (all of the seat's roots in one cut). By AI agents, Wed Nov 11 2026. No macro, syntax, notation, axiom, sorry.
-/
import Derived.Test.YtlonfblcopfigaaChecked
import GoSem.Claim
import GoSem.ClaimJoined
import GoSem.ClaimMapViews
import Derived.JoinedTies
import Derived.KernelRfl
namespace Go.Proofs.Ytlonfblcopfigaa
/- THE CELL 'sum', in the pinned program and in every row, IS THE sha256 OF THE DUMP (.gsa) THAT YtlonfblcopfigaaProg.lean LOADS. Nothing in Lean hashes anything: it is a label: what it is worth is what the hold of that sum in a sandbox is worth. -/
noncomputable def Try.pinned : Pinned := { name := "ytlonfblcopfigaa", sum := "77f224c126d1101f1bfaa7f58ef7ab1c86545a8b370a8253258a3c811f895da5", checked := Try.checked }
namespace Rows
def none {H : Type} : Left H := { results := [], args := [] }

/-- 'signetlaw.Names': WHATEVER THE INPUT: true; the input reads as it did. -/
def namesSpec : ChangeSpec := { name := "names", fn := fun _ => fun
  | [] => { results := [.lit (.bool true)], args := [] }
  | _ => none }
def namesRow : OpenClaim := { program := "ytlonfblcopfigaa", sum := "77f224c126d1101f1bfaa7f58ef7ab1c86545a8b370a8253258a3c811f895da5", func := "signet/signetlaw.Names", spec := "names", apart := false }
def NamesSaid : Prop := namesRow.holds Try.pinned (OpenSpec.ofChange namesSpec)

/-- ITS FALSE NEIGHBOUR: 'it returns false'. Refute it at one input. -/
def namesWrong : ChangeSpec := { name := "names", fn := fun _ => fun
  | [] => { results := [.lit (.bool false)], args := [] }
  | _ => none }
def NamesWrongFalsely : Prop := namesRow.holds Try.pinned (OpenSpec.ofChange namesWrong)

/-- 'signetlaw.CipherChecks': WHATEVER THE INPUT: true; the input reads as it did. -/
def cipherChecksSpec : ChangeSpec := { name := "cipherChecks", fn := fun _ => fun
  | [d1, d2] => { results := [.lit (.bool true)], args := [d1, d2] }
  | _ => none }
def cipherChecksRow : OpenClaim := { program := "ytlonfblcopfigaa", sum := "77f224c126d1101f1bfaa7f58ef7ab1c86545a8b370a8253258a3c811f895da5", func := "signet/signetlaw.CipherChecks", spec := "cipherChecks", apart := false }
def CipherChecksSaid : Prop := cipherChecksRow.holds Try.pinned (OpenSpec.ofChange cipherChecksSpec)

/-- ITS FALSE NEIGHBOUR: 'it returns false'. Refute it at one input. -/
def cipherChecksWrong : ChangeSpec := { name := "cipherChecks", fn := fun _ => fun
  | [d1, d2] => { results := [.lit (.bool false)], args := [d1, d2] }
  | _ => none }
def CipherChecksWrongFalsely : Prop := cipherChecksRow.holds Try.pinned (OpenSpec.ofChange cipherChecksWrong)

/-- 'signetlaw.RatchetHeads': WHATEVER THE INPUT: true; the input reads as it did. -/
def ratchetHeadsSpec : ChangeSpec := { name := "ratchetHeads", fn := fun _ => fun
  | [d] => { results := [.lit (.bool true)], args := [d] }
  | _ => none }
def ratchetHeadsRow : OpenClaim := { program := "ytlonfblcopfigaa", sum := "77f224c126d1101f1bfaa7f58ef7ab1c86545a8b370a8253258a3c811f895da5", func := "signet/signetlaw.RatchetHeads", spec := "ratchetHeads", apart := false }
def RatchetHeadsSaid : Prop := ratchetHeadsRow.holds Try.pinned (OpenSpec.ofChange ratchetHeadsSpec)

/-- ITS FALSE NEIGHBOUR: 'it returns false'. Refute it at one input. -/
def ratchetHeadsWrong : ChangeSpec := { name := "ratchetHeads", fn := fun _ => fun
  | [d] => { results := [.lit (.bool false)], args := [d] }
  | _ => none }
def RatchetHeadsWrongFalsely : Prop := ratchetHeadsRow.holds Try.pinned (OpenSpec.ofChange ratchetHeadsWrong)

/-- 'signetlaw.FrameEncodes': WHATEVER THE INPUT: true; the input reads as it did. -/
def frameEncodesSpec : ChangeSpec := { name := "frameEncodes", fn := fun _ => fun
  | [d] => { results := [.lit (.bool true)], args := [d] }
  | _ => none }
def frameEncodesRow : OpenClaim := { program := "ytlonfblcopfigaa", sum := "77f224c126d1101f1bfaa7f58ef7ab1c86545a8b370a8253258a3c811f895da5", func := "signet/signetlaw.FrameEncodes", spec := "frameEncodes", apart := false }
def FrameEncodesSaid : Prop := frameEncodesRow.holds Try.pinned (OpenSpec.ofChange frameEncodesSpec)

/-- ITS FALSE NEIGHBOUR: 'it returns false'. Refute it at one input. -/
def frameEncodesWrong : ChangeSpec := { name := "frameEncodes", fn := fun _ => fun
  | [d] => { results := [.lit (.bool false)], args := [d] }
  | _ => none }
def FrameEncodesWrongFalsely : Prop := frameEncodesRow.holds Try.pinned (OpenSpec.ofChange frameEncodesWrong)

/- THE SECOND FORM. 'bulk': how many values and letters a reading holds, each counted each time it is reached (what is shared counts as often as it is met; a slice's spare places count too). A statement '..UptoSaid' is the law's where the arguments, and the package variables that the reading takes, are together of bulk at most 1048576: NARROWER than '..Said'. Prove '..Said' where nothing that the law and all that it calls make is longer than what came in: it says more and counts as full. Else prove '..UptoSaid'. A law counts once. -/
mutual
def uptoBulk {H : Type} : DataW H → Nat
  | .lit (.string bytes) => bytes.length + 1
  | .lit _ => 1
  | .nil => 1
  | .ptr d => uptoBulk d + 1
  | .slice elems spare => uptoBulkAll elems + uptoBulkAll spare + 1
  | .agg parts => uptoBulkAll parts + 1
  | .iface _ d => uptoBulk d + 1
  | .map entries => uptoBulkEntries entries + 1
  | .held _ => 1
def uptoBulkAll {H : Type} : List (DataW H) → Nat
  | [] => 0
  | d :: r => uptoBulk d + uptoBulkAll r
def uptoBulkEntries {H : Type} : List (Lit × DataW H) → Nat
  | [] => 0
  | x :: r => uptoBulkEntry x + uptoBulkEntries r
def uptoBulkEntry {H : Type} : Lit × DataW H → Nat
  | (.string bytes, d) => bytes.length + uptoBulk d + 1
  | (_, d) => uptoBulk d + 1
 end
def uptoSmall : (H : Type) → List (DataW H) → Bool := fun _ ds => decide (uptoBulkAll ds ≤ 1048576)
def OpenSpec.upto (s : _root_.Go.ChangeSpec) : _root_.Go.OpenSpec := { _root_.Go.OpenSpec.ofChange s with cond := some uptoSmall }

/-- 'signetlaw.Names', WHERE WHAT IT READS IS OF BULK AT MOST 1048576: true; the input reads as it did. -/
def namesUptoRow : OpenClaim := { program := "ytlonfblcopfigaa", sum := "77f224c126d1101f1bfaa7f58ef7ab1c86545a8b370a8253258a3c811f895da5", func := "signet/signetlaw.Names", spec := "names", apart := false, narrowed := true }
def NamesUptoSaid : Prop := namesUptoRow.holds Try.pinned (OpenSpec.upto namesSpec)

/-- 'signetlaw.CipherChecks', WHERE WHAT IT READS IS OF BULK AT MOST 1048576: true; the input reads as it did. -/
def cipherChecksUptoRow : OpenClaim := { program := "ytlonfblcopfigaa", sum := "77f224c126d1101f1bfaa7f58ef7ab1c86545a8b370a8253258a3c811f895da5", func := "signet/signetlaw.CipherChecks", spec := "cipherChecks", apart := false, narrowed := true }
def CipherChecksUptoSaid : Prop := cipherChecksUptoRow.holds Try.pinned (OpenSpec.upto cipherChecksSpec)

/-- 'signetlaw.RatchetHeads', WHERE WHAT IT READS IS OF BULK AT MOST 1048576: true; the input reads as it did. -/
def ratchetHeadsUptoRow : OpenClaim := { program := "ytlonfblcopfigaa", sum := "77f224c126d1101f1bfaa7f58ef7ab1c86545a8b370a8253258a3c811f895da5", func := "signet/signetlaw.RatchetHeads", spec := "ratchetHeads", apart := false, narrowed := true }
def RatchetHeadsUptoSaid : Prop := ratchetHeadsUptoRow.holds Try.pinned (OpenSpec.upto ratchetHeadsSpec)

/-- 'signetlaw.FrameEncodes', WHERE WHAT IT READS IS OF BULK AT MOST 1048576: true; the input reads as it did. -/
def frameEncodesUptoRow : OpenClaim := { program := "ytlonfblcopfigaa", sum := "77f224c126d1101f1bfaa7f58ef7ab1c86545a8b370a8253258a3c811f895da5", func := "signet/signetlaw.FrameEncodes", spec := "frameEncodes", apart := false, narrowed := true }
def FrameEncodesUptoSaid : Prop := frameEncodesUptoRow.holds Try.pinned (OpenSpec.upto frameEncodesSpec)

end Rows
end Go.Proofs.Ytlonfblcopfigaa
