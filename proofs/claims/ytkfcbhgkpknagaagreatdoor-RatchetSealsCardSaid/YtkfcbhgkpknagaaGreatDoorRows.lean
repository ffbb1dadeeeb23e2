/-
  NARROWER THAN 'FOR EVERY INPUT', by the rows' own cells (each row's printed sentence says how): RatchetSeals: laid · RatchetOpens: laid.
  DERIVED. THE GIVEN ROWS OF THIS SEAT. 2 by the template 'for every input the law returns true; each argument reads behind the call as it read before'; 0 by the template 'total and deterministic' (their statements: YtkfcbhgkpknagaaGreatDoorTotals.lean).
  GIVEN WITH THE SEED: the statements are not yours to turn. If you find one false, say at which input.
  Laid BY PROGRAM, IN A SANDBOX (cutbox-rows.mjs): the forced cells as the released guide's own fill.sh prints them over the translation f2844d1a308b2b4e… (all of the seat's roots in one cut). By AI agents, Wed Nov 11 2026. No macro, syntax, notation, axiom, sorry.
-/
import Derived.Test.YtkfcbhgkpknagaaGreatDoorChecked
import GoSem.Claim
import GoSem.ClaimJoined
import GoSem.ClaimMapViews
import Derived.JoinedTies
import Derived.KernelRfl
namespace Go.Proofs.YtkfcbhgkpknagaaGreatDoor
/- THE CELL 'sum', in the pinned program and in every row, IS THE sha256 OF THE DUMP (.gsa) THAT YtkfcbhgkpknagaaGreatDoorProg.lean LOADS. Nothing in Lean hashes anything: it is a label: what it is worth is what the hold of that sum in a sandbox is worth. -/
noncomputable def Tryz.pinned : Pinned := { name := "ytkfcbhgkpknagaagreatdoor", sum := "f2844d1a308b2b4e8f1c312d0dd7e88858f9b794804ff0eb9255f8be4759b596", checked := Tryz.checked }
namespace Rows
def none {H : Type} : Left H := { results := [], args := [] }

/- WHAT THE LISTED PACKAGE-LEVEL VARIABLES READ AS WHEN THE CALL BEGINS. Each datum BY PROGRAM (the guide's laid-datum.mjs) off the statement by which the dump's own 'gosem.cut.vars' lays the variable. In a bare row this is a premise. The card (YtkfcbhgkpknagaaGreatDoorCards.lean) ties it to the program's text. -/
def laid_signet_blake_first {H : Type} : DataW H := .agg [.lit (.int .u32 1779033703), .lit (.int .u32 3144134277), .lit (.int .u32 1013904242), .lit (.int .u32 2773480762), .lit (.int .u32 1359893119), .lit (.int .u32 2600822924), .lit (.int .u32 528734635), .lit (.int .u32 1541459225)]
def laid_signet_blake_orders {H : Type} : DataW H := .agg [.agg [.lit (.int .i64 0), .lit (.int .i64 1), .lit (.int .i64 2), .lit (.int .i64 3), .lit (.int .i64 4), .lit (.int .i64 5), .lit (.int .i64 6), .lit (.int .i64 7), .lit (.int .i64 8), .lit (.int .i64 9), .lit (.int .i64 10), .lit (.int .i64 11), .lit (.int .i64 12), .lit (.int .i64 13), .lit (.int .i64 14), .lit (.int .i64 15)], .agg [.lit (.int .i64 14), .lit (.int .i64 10), .lit (.int .i64 4), .lit (.int .i64 8), .lit (.int .i64 9), .lit (.int .i64 15), .lit (.int .i64 13), .lit (.int .i64 6), .lit (.int .i64 1), .lit (.int .i64 12), .lit (.int .i64 0), .lit (.int .i64 2), .lit (.int .i64 11), .lit (.int .i64 7), .lit (.int .i64 5), .lit (.int .i64 3)], .agg [.lit (.int .i64 11), .lit (.int .i64 8), .lit (.int .i64 12), .lit (.int .i64 0), .lit (.int .i64 5), .lit (.int .i64 2), .lit (.int .i64 15), .lit (.int .i64 13), .lit (.int .i64 10), .lit (.int .i64 14), .lit (.int .i64 3), .lit (.int .i64 6), .lit (.int .i64 7), .lit (.int .i64 1), .lit (.int .i64 9), .lit (.int .i64 4)], .agg [.lit (.int .i64 7), .lit (.int .i64 9), .lit (.int .i64 3), .lit (.int .i64 1), .lit (.int .i64 13), .lit (.int .i64 12), .lit (.int .i64 11), .lit (.int .i64 14), .lit (.int .i64 2), .lit (.int .i64 6), .lit (.int .i64 5), .lit (.int .i64 10), .lit (.int .i64 4), .lit (.int .i64 0), .lit (.int .i64 15), .lit (.int .i64 8)], .agg [.lit (.int .i64 9), .lit (.int .i64 0), .lit (.int .i64 5), .lit (.int .i64 7), .lit (.int .i64 2), .lit (.int .i64 4), .lit (.int .i64 10), .lit (.int .i64 15), .lit (.int .i64 14), .lit (.int .i64 1), .lit (.int .i64 11), .lit (.int .i64 12), .lit (.int .i64 6), .lit (.int .i64 8), .lit (.int .i64 3), .lit (.int .i64 13)], .agg [.lit (.int .i64 2), .lit (.int .i64 12), .lit (.int .i64 6), .lit (.int .i64 10), .lit (.int .i64 0), .lit (.int .i64 11), .lit (.int .i64 8), .lit (.int .i64 3), .lit (.int .i64 4), .lit (.int .i64 13), .lit (.int .i64 7), .lit (.int .i64 5), .lit (.int .i64 15), .lit (.int .i64 14), .lit (.int .i64 1), .lit (.int .i64 9)], .agg [.lit (.int .i64 12), .lit (.int .i64 5), .lit (.int .i64 1), .lit (.int .i64 15), .lit (.int .i64 14), .lit (.int .i64 13), .lit (.int .i64 4), .lit (.int .i64 10), .lit (.int .i64 0), .lit (.int .i64 7), .lit (.int .i64 6), .lit (.int .i64 3), .lit (.int .i64 9), .lit (.int .i64 2), .lit (.int .i64 8), .lit (.int .i64 11)], .agg [.lit (.int .i64 13), .lit (.int .i64 11), .lit (.int .i64 7), .lit (.int .i64 14), .lit (.int .i64 12), .lit (.int .i64 1), .lit (.int .i64 3), .lit (.int .i64 9), .lit (.int .i64 5), .lit (.int .i64 0), .lit (.int .i64 15), .lit (.int .i64 4), .lit (.int .i64 8), .lit (.int .i64 6), .lit (.int .i64 2), .lit (.int .i64 10)], .agg [.lit (.int .i64 6), .lit (.int .i64 15), .lit (.int .i64 14), .lit (.int .i64 9), .lit (.int .i64 11), .lit (.int .i64 3), .lit (.int .i64 0), .lit (.int .i64 8), .lit (.int .i64 12), .lit (.int .i64 2), .lit (.int .i64 13), .lit (.int .i64 7), .lit (.int .i64 1), .lit (.int .i64 4), .lit (.int .i64 10), .lit (.int .i64 5)], .agg [.lit (.int .i64 10), .lit (.int .i64 2), .lit (.int .i64 8), .lit (.int .i64 4), .lit (.int .i64 7), .lit (.int .i64 6), .lit (.int .i64 1), .lit (.int .i64 5), .lit (.int .i64 15), .lit (.int .i64 11), .lit (.int .i64 9), .lit (.int .i64 14), .lit (.int .i64 3), .lit (.int .i64 12), .lit (.int .i64 13), .lit (.int .i64 0)]]
def laid_signet_field_prime {H : Type} : DataW H := .agg [.lit (.int .u64 18446744073709551597), .lit (.int .u64 18446744073709551615), .lit (.int .u64 18446744073709551615), .lit (.int .u64 9223372036854775807)]
def laid_signet_signetref_iv {H : Type} : DataW H := .agg [.lit (.int .u32 1779033703), .lit (.int .u32 3144134277), .lit (.int .u32 1013904242), .lit (.int .u32 2773480762), .lit (.int .u32 1359893119), .lit (.int .u32 2600822924), .lit (.int .u32 528734635), .lit (.int .u32 1541459225)]
def laid_signet_signetref_prime {H : Type} : DataW H := .agg [.lit (.int .u64 65517), .lit (.int .u64 65535), .lit (.int .u64 65535), .lit (.int .u64 65535), .lit (.int .u64 65535), .lit (.int .u64 65535), .lit (.int .u64 65535), .lit (.int .u64 65535), .lit (.int .u64 65535), .lit (.int .u64 65535), .lit (.int .u64 65535), .lit (.int .u64 65535), .lit (.int .u64 65535), .lit (.int .u64 65535), .lit (.int .u64 65535), .lit (.int .u64 32767)]

/-- 'signetlaw.RatchetSeals': WHATEVER THE INPUT: true; the input reads as it did. -/
def ratchetSealsSpec : ChangeSpec := { name := "ratchetSeals", fn := fun _ => fun
  | [d1, d2, d3] => { results := [.lit (.bool true)], args := [d1, d2, d3] }
  | _ => none }
def ratchetSealsRow : OpenClaim := { program := "ytkfcbhgkpknagaagreatdoor", sum := "f2844d1a308b2b4e8f1c312d0dd7e88858f9b794804ff0eb9255f8be4759b596", func := "signet/signetlaw.RatchetSeals", spec := "ratchetSeals", inPlace := ["math/bits.Sub64", "math/bits.Add64"], unfollowed := true, recurses := true, named := ["signet/field.prime", "signet/blake.first", "signet/blake.orders", "signet/signetref.prime", "signet/signetref.iv"], apart := false, laid := [("signet/blake.first", laid_signet_blake_first), ("signet/blake.orders", laid_signet_blake_orders), ("signet/field.prime", laid_signet_field_prime), ("signet/signetref.iv", laid_signet_signetref_iv), ("signet/signetref.prime", laid_signet_signetref_prime)] }
def RatchetSealsSaid : Prop := ratchetSealsRow.holds Tryz.pinned (OpenSpec.ofChange ratchetSealsSpec)

/-- ITS FALSE NEIGHBOUR: 'it returns false'. Refute it at one input. -/
def ratchetSealsWrong : ChangeSpec := { name := "ratchetSeals", fn := fun _ => fun
  | [d1, d2, d3] => { results := [.lit (.bool false)], args := [d1, d2, d3] }
  | _ => none }
def RatchetSealsWrongFalsely : Prop := ratchetSealsRow.holds Tryz.pinned (OpenSpec.ofChange ratchetSealsWrong)

/-- 'signetlaw.RatchetOpens': WHATEVER THE INPUT: true; the input reads as it did. -/
def ratchetOpensSpec : ChangeSpec := { name := "ratchetOpens", fn := fun _ => fun
  | [d1, d2, d3, d4, d5] => { results := [.lit (.bool true)], args := [d1, d2, d3, d4, d5] }
  | _ => none }
def ratchetOpensRow : OpenClaim := { program := "ytkfcbhgkpknagaagreatdoor", sum := "f2844d1a308b2b4e8f1c312d0dd7e88858f9b794804ff0eb9255f8be4759b596", func := "signet/signetlaw.RatchetOpens", spec := "ratchetOpens", inPlace := ["math/bits.Sub64", "math/bits.Add64"], unfollowed := true, recurses := true, named := ["signet/blake.first", "signet/blake.orders", "signet/field.prime", "signet/signetref.iv", "signet/signetref.prime"], apart := false, laid := [("signet/blake.first", laid_signet_blake_first), ("signet/blake.orders", laid_signet_blake_orders), ("signet/field.prime", laid_signet_field_prime), ("signet/signetref.iv", laid_signet_signetref_iv), ("signet/signetref.prime", laid_signet_signetref_prime)] }
def RatchetOpensSaid : Prop := ratchetOpensRow.holds Tryz.pinned (OpenSpec.ofChange ratchetOpensSpec)

/-- ITS FALSE NEIGHBOUR: 'it returns false'. Refute it at one input. -/
def ratchetOpensWrong : ChangeSpec := { name := "ratchetOpens", fn := fun _ => fun
  | [d1, d2, d3, d4, d5] => { results := [.lit (.bool false)], args := [d1, d2, d3, d4, d5] }
  | _ => none }
def RatchetOpensWrongFalsely : Prop := ratchetOpensRow.holds Tryz.pinned (OpenSpec.ofChange ratchetOpensWrong)

/- THE SECOND FORM. 'bulk': how many values and letters a reading holds, each counted each time it is reached (what is shared counts as often as it is met; a slice's spare places count too). A statement '..UptoSaid' is the law's where the arguments, and the package variables that the reading takes, are together of bulk at most 1048576: NARROWER than '..Said'. Prove '..Said' where nothing that the law and all that it calls make is longer than what came in: it says more and counts as full. Else prove '..UptoSaid'. A law counts once. -/
mutual
def uptoBulk {H : Type} : DataW H → Nat
  | .lit (.string bytes) => bytes.length + 1
  | .lit _ => 1
  | .nil => 1
  | .ptr d => uptoBulk d + 1
  | .slice elems spare => uptoBulkAll elems + uptoBulkAll spare + 1
  | .agg parts => uptoBulkAll parts + 1
  | .iface _ d => uptoBulk d + 1
  | .map entries => uptoBulkEntries entries + 1
  | .held _ => 1
def uptoBulkAll {H : Type} : List (DataW H) → Nat
  | [] => 0
  | d :: r => uptoBulk d + uptoBulkAll r
def uptoBulkEntries {H : Type} : List (Lit × DataW H) → Nat
  | [] => 0
  | x :: r => uptoBulkEntry x + uptoBulkEntries r
def uptoBulkEntry {H : Type} : Lit × DataW H → Nat
  | (.string bytes, d) => bytes.length + uptoBulk d + 1
  | (_, d) => uptoBulk d + 1
 end
def uptoSmall : (H : Type) → List (DataW H) → Bool := fun _ ds => decide (uptoBulkAll ds ≤ 1048576)
def OpenSpec.upto (s : _root_.Go.ChangeSpec) : _root_.Go.OpenSpec := { _root_.Go.OpenSpec.ofChange s with cond := some uptoSmall }

/-- 'signetlaw.RatchetSeals', WHERE WHAT IT READS IS OF BULK AT MOST 1048576: true; the input reads as it did. -/
def ratchetSealsUptoRow : OpenClaim := { program := "ytkfcbhgkpknagaagreatdoor", sum := "f2844d1a308b2b4e8f1c312d0dd7e88858f9b794804ff0eb9255f8be4759b596", func := "signet/signetlaw.RatchetSeals", spec := "ratchetSeals", inPlace := ["math/bits.Sub64", "math/bits.Add64"], unfollowed := true, recurses := true, named := ["signet/field.prime", "signet/blake.first", "signet/blake.orders", "signet/signetref.prime", "signet/signetref.iv"], apart := false, laid := [("signet/blake.first", laid_signet_blake_first), ("signet/blake.orders", laid_signet_blake_orders), ("signet/field.prime", laid_signet_field_prime), ("signet/signetref.iv", laid_signet_signetref_iv), ("signet/signetref.prime", laid_signet_signetref_prime)], narrowed := true }
def RatchetSealsUptoSaid : Prop := ratchetSealsUptoRow.holds Tryz.pinned (OpenSpec.upto ratchetSealsSpec)

/-- 'signetlaw.RatchetOpens', WHERE WHAT IT READS IS OF BULK AT MOST 1048576: true; the input reads as it did. -/
def ratchetOpensUptoRow : OpenClaim := { program := "ytkfcbhgkpknagaagreatdoor", sum := "f2844d1a308b2b4e8f1c312d0dd7e88858f9b794804ff0eb9255f8be4759b596", func := "signet/signetlaw.RatchetOpens", spec := "ratchetOpens", inPlace := ["math/bits.Sub64", "math/bits.Add64"], unfollowed := true, recurses := true, named := ["signet/blake.first", "signet/blake.orders", "signet/field.prime", "signet/signetref.iv", "signet/signetref.prime"], apart := false, laid := [("signet/blake.first", laid_signet_blake_first), ("signet/blake.orders", laid_signet_blake_orders), ("signet/field.prime", laid_signet_field_prime), ("signet/signetref.iv", laid_signet_signetref_iv), ("signet/signetref.prime", laid_signet_signetref_prime)], narrowed := true }
def RatchetOpensUptoSaid : Prop := ratchetOpensUptoRow.holds Tryz.pinned (OpenSpec.upto ratchetOpensSpec)

end Rows
end Go.Proofs.YtkfcbhgkpknagaaGreatDoor
