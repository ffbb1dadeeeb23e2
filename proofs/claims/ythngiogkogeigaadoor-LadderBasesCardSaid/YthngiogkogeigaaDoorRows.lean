/-
  NARROWER THAN 'FOR EVERY INPUT', by the rows' own cells (each row's printed sentence says how): LadderMults: laid · LadderBases: laid.
  DERIVED. THE GIVEN ROWS OF THIS SEAT. 2 by the template 'for every input the law returns true; each argument reads behind the call as it read before'; 0 by the template 'total and deterministic' (their statements: YthngiogkogeigaaDoorTotals.lean).
  GIVEN WITH THE SEED: the statements are not yours to turn. If you find one false, say at which input.
  Laid BY PROGRAM, IN A SANDBOX (cutbox-rows.mjs): the forced cells as the released guide's own fill.sh prints them over the translation eaa2f37f5a2fd0fb… (all of the seat's roots in one cut). By AI agents, Wed Nov 11 2026. No macro, syntax, notation, axiom, sorry.
-/
import Derived.Test.YthngiogkogeigaaDoorChecked
import GoSem.Claim
import GoSem.ClaimJoined
import GoSem.ClaimMapViews
import Derived.JoinedTies
import Derived.KernelRfl
namespace Go.Proofs.YthngiogkogeigaaDoor
/- THE CELL 'sum', in the pinned program and in every row, IS THE sha256 OF THE DUMP (.gsa) THAT YthngiogkogeigaaDoorProg.lean LOADS. Nothing in Lean hashes anything: it is a label: what it is worth is what the hold of that sum in a sandbox is worth. -/
noncomputable def Tryd.pinned : Pinned := { name := "ythngiogkogeigaadoor", sum := "eaa2f37f5a2fd0fb953295b9ab85d1287d0224631fac2fc635e72b0fde5a66b1", checked := Tryd.checked }
namespace Rows
def none {H : Type} : Left H := { results := [], args := [] }

/- WHAT THE LISTED PACKAGE-LEVEL VARIABLES READ AS WHEN THE CALL BEGINS. Each datum BY PROGRAM (the guide's laid-datum.mjs) off the statement by which the dump's own 'gosem.cut.vars' lays the variable. In a bare row this is a premise. The card (YthngiogkogeigaaDoorCards.lean) ties it to the program's text. -/
def laid_signet_field_prime {H : Type} : DataW H := .agg [.lit (.int .u64 18446744073709551597), .lit (.int .u64 18446744073709551615), .lit (.int .u64 18446744073709551615), .lit (.int .u64 9223372036854775807)]
def laid_signet_signetref_prime {H : Type} : DataW H := .agg [.lit (.int .u64 65517), .lit (.int .u64 65535), .lit (.int .u64 65535), .lit (.int .u64 65535), .lit (.int .u64 65535), .lit (.int .u64 65535), .lit (.int .u64 65535), .lit (.int .u64 65535), .lit (.int .u64 65535), .lit (.int .u64 65535), .lit (.int .u64 65535), .lit (.int .u64 65535), .lit (.int .u64 65535), .lit (.int .u64 65535), .lit (.int .u64 65535), .lit (.int .u64 32767)]

/-- 'signetlaw.LadderMults': WHATEVER THE INPUT: true; the input reads as it did. -/
def ladderMultsSpec : ChangeSpec := { name := "ladderMults", fn := fun _ => fun
  | [d1, d2] => { results := [.lit (.bool true)], args := [d1, d2] }
  | _ => none }
def ladderMultsRow : OpenClaim := { program := "ythngiogkogeigaadoor", sum := "eaa2f37f5a2fd0fb953295b9ab85d1287d0224631fac2fc635e72b0fde5a66b1", func := "signet/signetlaw.LadderMults", spec := "ladderMults", inPlace := ["math/bits.Sub64", "math/bits.Add64"], unfollowed := true, recurses := true, named := ["signet/field.prime", "signet/signetref.prime"], apart := false, laid := [("signet/field.prime", laid_signet_field_prime), ("signet/signetref.prime", laid_signet_signetref_prime)] }
def LadderMultsSaid : Prop := ladderMultsRow.holds Tryd.pinned (OpenSpec.ofChange ladderMultsSpec)

/-- ITS FALSE NEIGHBOUR: 'it returns false'. Refute it at one input. -/
def ladderMultsWrong : ChangeSpec := { name := "ladderMults", fn := fun _ => fun
  | [d1, d2] => { results := [.lit (.bool false)], args := [d1, d2] }
  | _ => none }
def LadderMultsWrongFalsely : Prop := ladderMultsRow.holds Tryd.pinned (OpenSpec.ofChange ladderMultsWrong)

/-- 'signetlaw.LadderBases': WHATEVER THE INPUT: true; the input reads as it did. -/
def ladderBasesSpec : ChangeSpec := { name := "ladderBases", fn := fun _ => fun
  | [d] => { results := [.lit (.bool true)], args := [d] }
  | _ => none }
def ladderBasesRow : OpenClaim := { program := "ythngiogkogeigaadoor", sum := "eaa2f37f5a2fd0fb953295b9ab85d1287d0224631fac2fc635e72b0fde5a66b1", func := "signet/signetlaw.LadderBases", spec := "ladderBases", inPlace := ["math/bits.Sub64", "math/bits.Add64"], unfollowed := true, recurses := true, named := ["signet/field.prime", "signet/signetref.prime"], apart := false, laid := [("signet/field.prime", laid_signet_field_prime), ("signet/signetref.prime", laid_signet_signetref_prime)] }
def LadderBasesSaid : Prop := ladderBasesRow.holds Tryd.pinned (OpenSpec.ofChange ladderBasesSpec)

/-- ITS FALSE NEIGHBOUR: 'it returns false'. Refute it at one input. -/
def ladderBasesWrong : ChangeSpec := { name := "ladderBases", fn := fun _ => fun
  | [d] => { results := [.lit (.bool false)], args := [d] }
  | _ => none }
def LadderBasesWrongFalsely : Prop := ladderBasesRow.holds Tryd.pinned (OpenSpec.ofChange ladderBasesWrong)

/- THE SECOND FORM. 'bulk': how many values and letters a reading holds, each counted each time it is reached (what is shared counts as often as it is met; a slice's spare places count too). A statement '..UptoSaid' is the law's where the arguments, and the package variables that the reading takes, are together of bulk at most 1048576: NARROWER than '..Said'. Prove '..Said' where nothing that the law and all that it calls make is longer than what came in: it says more and counts as full. Else prove '..UptoSaid'. A law counts once. -/
mutual
def uptoBulk {H : Type} : DataW H → Nat
  | .lit (.string bytes) => bytes.length + 1
  | .lit _ => 1
  | .nil => 1
  | .ptr d => uptoBulk d + 1
  | .slice elems spare => uptoBulkAll elems + uptoBulkAll spare + 1
  | .agg parts => uptoBulkAll parts + 1
  | .iface _ d => uptoBulk d + 1
  | .map entries => uptoBulkEntries entries + 1
  | .held _ => 1
def uptoBulkAll {H : Type} : List (DataW H) → Nat
  | [] => 0
  | d :: r => uptoBulk d + uptoBulkAll r
def uptoBulkEntries {H : Type} : List (Lit × DataW H) → Nat
  | [] => 0
  | x :: r => uptoBulkEntry x + uptoBulkEntries r
def uptoBulkEntry {H : Type} : Lit × DataW H → Nat
  | (.string bytes, d) => bytes.length + uptoBulk d + 1
  | (_, d) => uptoBulk d + 1
 end
def uptoSmall : (H : Type) → List (DataW H) → Bool := fun _ ds => decide (uptoBulkAll ds ≤ 1048576)
def OpenSpec.upto (s : _root_.Go.ChangeSpec) : _root_.Go.OpenSpec := { _root_.Go.OpenSpec.ofChange s with cond := some uptoSmall }

/-- 'signetlaw.LadderMults', WHERE WHAT IT READS IS OF BULK AT MOST 1048576: true; the input reads as it did. -/
def ladderMultsUptoRow : OpenClaim := { program := "ythngiogkogeigaadoor", sum := "eaa2f37f5a2fd0fb953295b9ab85d1287d0224631fac2fc635e72b0fde5a66b1", func := "signet/signetlaw.LadderMults", spec := "ladderMults", inPlace := ["math/bits.Sub64", "math/bits.Add64"], unfollowed := true, recurses := true, named := ["signet/field.prime", "signet/signetref.prime"], apart := false, laid := [("signet/field.prime", laid_signet_field_prime), ("signet/signetref.prime", laid_signet_signetref_prime)], narrowed := true }
def LadderMultsUptoSaid : Prop := ladderMultsUptoRow.holds Tryd.pinned (OpenSpec.upto ladderMultsSpec)

/-- 'signetlaw.LadderBases', WHERE WHAT IT READS IS OF BULK AT MOST 1048576: true; the input reads as it did. -/
def ladderBasesUptoRow : OpenClaim := { program := "ythngiogkogeigaadoor", sum := "eaa2f37f5a2fd0fb953295b9ab85d1287d0224631fac2fc635e72b0fde5a66b1", func := "signet/signetlaw.LadderBases", spec := "ladderBases", inPlace := ["math/bits.Sub64", "math/bits.Add64"], unfollowed := true, recurses := true, named := ["signet/field.prime", "signet/signetref.prime"], apart := false, laid := [("signet/field.prime", laid_signet_field_prime), ("signet/signetref.prime", laid_signet_signetref_prime)], narrowed := true }
def LadderBasesUptoSaid : Prop := ladderBasesUptoRow.holds Tryd.pinned (OpenSpec.upto ladderBasesSpec)

end Rows
end Go.Proofs.YthngiogkogeigaaDoor
