/-
  NARROWER THAN 'FOR EVERY INPUT', by the rows' own cells (each row's printed sentence says how): BlakeEnds: laid · BlakeAdds: laid · BlakeSums: laid · KdfMacs: laid · KdfKeys: laid · SymBegins: laid · SymMixes: laid.
  DERIVED. THE GIVEN ROWS OF THIS SEAT. 7 by the template 'for every input the law returns true; each argument reads behind the call as it read before'; 0 by the template 'total and deterministic' (their statements: YtojdgfocpmlpfaaDoorTotals.lean).
  GIVEN WITH THE SEED: the statements are not yours to turn. If you find one false, say at which input.
  Laid BY PROGRAM, IN A SANDBOX (cutbox-rows.mjs): the forced cells as the released guide's own fill.sh prints them over the translation a1ae9cc2ee9d876b… (all of the seat's roots in one cut). By AI agents, Wed Nov 11 2026. No macro, syntax, notation, axiom, sorry.
-/
import Derived.Test.YtojdgfocpmlpfaaDoorChecked
import GoSem.Claim
import GoSem.ClaimJoined
import GoSem.ClaimMapViews
import Derived.JoinedTies
import Derived.KernelRfl
namespace Go.Proofs.YtojdgfocpmlpfaaDoor
/- THE CELL 'sum', in the pinned program and in every row, IS THE sha256 OF THE DUMP (.gsa) THAT YtojdgfocpmlpfaaDoorProg.lean LOADS. Nothing in Lean hashes anything: it is a label: what it is worth is what the hold of that sum in a sandbox is worth. -/
noncomputable def Tryd.pinned : Pinned := { name := "ytojdgfocpmlpfaadoor", sum := "a1ae9cc2ee9d876b62bc3593ab24c6b9dbd986ae9e97839ba3cb0375ca0bedfc", checked := Tryd.checked }
namespace Rows
def none {H : Type} : Left H := { results := [], args := [] }

/- WHAT THE LISTED PACKAGE-LEVEL VARIABLES READ AS WHEN THE CALL BEGINS. Each datum BY PROGRAM (the guide's laid-datum.mjs) off the statement by which the dump's own 'gosem.cut.vars' lays the variable. In a bare row this is a premise. The card (YtojdgfocpmlpfaaDoorCards.lean) ties it to the program's text. -/
def laid_signet_blake_first {H : Type} : DataW H := .agg [.lit (.int .u32 1779033703), .lit (.int .u32 3144134277), .lit (.int .u32 1013904242), .lit (.int .u32 2773480762), .lit (.int .u32 1359893119), .lit (.int .u32 2600822924), .lit (.int .u32 528734635), .lit (.int .u32 1541459225)]
def laid_signet_blake_orders {H : Type} : DataW H := .agg [.agg [.lit (.int .i64 0), .lit (.int .i64 1), .lit (.int .i64 2), .lit (.int .i64 3), .lit (.int .i64 4), .lit (.int .i64 5), .lit (.int .i64 6), .lit (.int .i64 7), .lit (.int .i64 8), .lit (.int .i64 9), .lit (.int .i64 10), .lit (.int .i64 11), .lit (.int .i64 12), .lit (.int .i64 13), .lit (.int .i64 14), .lit (.int .i64 15)], .agg [.lit (.int .i64 14), .lit (.int .i64 10), .lit (.int .i64 4), .lit (.int .i64 8), .lit (.int .i64 9), .lit (.int .i64 15), .lit (.int .i64 13), .lit (.int .i64 6), .lit (.int .i64 1), .lit (.int .i64 12), .lit (.int .i64 0), .lit (.int .i64 2), .lit (.int .i64 11), .lit (.int .i64 7), .lit (.int .i64 5), .lit (.int .i64 3)], .agg [.lit (.int .i64 11), .lit (.int .i64 8), .lit (.int .i64 12), .lit (.int .i64 0), .lit (.int .i64 5), .lit (.int .i64 2), .lit (.int .i64 15), .lit (.int .i64 13), .lit (.int .i64 10), .lit (.int .i64 14), .lit (.int .i64 3), .lit (.int .i64 6), .lit (.int .i64 7), .lit (.int .i64 1), .lit (.int .i64 9), .lit (.int .i64 4)], .agg [.lit (.int .i64 7), .lit (.int .i64 9), .lit (.int .i64 3), .lit (.int .i64 1), .lit (.int .i64 13), .lit (.int .i64 12), .lit (.int .i64 11), .lit (.int .i64 14), .lit (.int .i64 2), .lit (.int .i64 6), .lit (.int .i64 5), .lit (.int .i64 10), .lit (.int .i64 4), .lit (.int .i64 0), .lit (.int .i64 15), .lit (.int .i64 8)], .agg [.lit (.int .i64 9), .lit (.int .i64 0), .lit (.int .i64 5), .lit (.int .i64 7), .lit (.int .i64 2), .lit (.int .i64 4), .lit (.int .i64 10), .lit (.int .i64 15), .lit (.int .i64 14), .lit (.int .i64 1), .lit (.int .i64 11), .lit (.int .i64 12), .lit (.int .i64 6), .lit (.int .i64 8), .lit (.int .i64 3), .lit (.int .i64 13)], .agg [.lit (.int .i64 2), .lit (.int .i64 12), .lit (.int .i64 6), .lit (.int .i64 10), .lit (.int .i64 0), .lit (.int .i64 11), .lit (.int .i64 8), .lit (.int .i64 3), .lit (.int .i64 4), .lit (.int .i64 13), .lit (.int .i64 7), .lit (.int .i64 5), .lit (.int .i64 15), .lit (.int .i64 14), .lit (.int .i64 1), .lit (.int .i64 9)], .agg [.lit (.int .i64 12), .lit (.int .i64 5), .lit (.int .i64 1), .lit (.int .i64 15), .lit (.int .i64 14), .lit (.int .i64 13), .lit (.int .i64 4), .lit (.int .i64 10), .lit (.int .i64 0), .lit (.int .i64 7), .lit (.int .i64 6), .lit (.int .i64 3), .lit (.int .i64 9), .lit (.int .i64 2), .lit (.int .i64 8), .lit (.int .i64 11)], .agg [.lit (.int .i64 13), .lit (.int .i64 11), .lit (.int .i64 7), .lit (.int .i64 14), .lit (.int .i64 12), .lit (.int .i64 1), .lit (.int .i64 3), .lit (.int .i64 9), .lit (.int .i64 5), .lit (.int .i64 0), .lit (.int .i64 15), .lit (.int .i64 4), .lit (.int .i64 8), .lit (.int .i64 6), .lit (.int .i64 2), .lit (.int .i64 10)], .agg [.lit (.int .i64 6), .lit (.int .i64 15), .lit (.int .i64 14), .lit (.int .i64 9), .lit (.int .i64 11), .lit (.int .i64 3), .lit (.int .i64 0), .lit (.int .i64 8), .lit (.int .i64 12), .lit (.int .i64 2), .lit (.int .i64 13), .lit (.int .i64 7), .lit (.int .i64 1), .lit (.int .i64 4), .lit (.int .i64 10), .lit (.int .i64 5)], .agg [.lit (.int .i64 10), .lit (.int .i64 2), .lit (.int .i64 8), .lit (.int .i64 4), .lit (.int .i64 7), .lit (.int .i64 6), .lit (.int .i64 1), .lit (.int .i64 5), .lit (.int .i64 15), .lit (.int .i64 11), .lit (.int .i64 9), .lit (.int .i64 14), .lit (.int .i64 3), .lit (.int .i64 12), .lit (.int .i64 13), .lit (.int .i64 0)]]
def laid_signet_signetref_iv {H : Type} : DataW H := .agg [.lit (.int .u32 1779033703), .lit (.int .u32 3144134277), .lit (.int .u32 1013904242), .lit (.int .u32 2773480762), .lit (.int .u32 1359893119), .lit (.int .u32 2600822924), .lit (.int .u32 528734635), .lit (.int .u32 1541459225)]

/-- 'signetlaw.BlakeEnds': WHATEVER THE INPUT: true; the input reads as it did. -/
def blakeEndsSpec : ChangeSpec := { name := "blakeEnds", fn := fun _ => fun
  | [d] => { results := [.lit (.bool true)], args := [d] }
  | _ => none }
def blakeEndsRow : OpenClaim := { program := "ytojdgfocpmlpfaadoor", sum := "a1ae9cc2ee9d876b62bc3593ab24c6b9dbd986ae9e97839ba3cb0375ca0bedfc", func := "signet/signetlaw.BlakeEnds", spec := "blakeEnds", unfollowed := true, recurses := true, named := ["signet/blake.first", "signet/blake.orders", "signet/signetref.iv"], apart := false, laid := [("signet/blake.first", laid_signet_blake_first), ("signet/blake.orders", laid_signet_blake_orders), ("signet/signetref.iv", laid_signet_signetref_iv)] }
def BlakeEndsSaid : Prop := blakeEndsRow.holds Tryd.pinned (OpenSpec.ofChange blakeEndsSpec)

/-- ITS FALSE NEIGHBOUR: 'it returns false'. Refute it at one input. -/
def blakeEndsWrong : ChangeSpec := { name := "blakeEnds", fn := fun _ => fun
  | [d] => { results := [.lit (.bool false)], args := [d] }
  | _ => none }
def BlakeEndsWrongFalsely : Prop := blakeEndsRow.holds Tryd.pinned (OpenSpec.ofChange blakeEndsWrong)

/-- 'signetlaw.BlakeAdds': WHATEVER THE INPUT: true; the input reads as it did. -/
def blakeAddsSpec : ChangeSpec := { name := "blakeAdds", fn := fun _ => fun
  | [d1, d2] => { results := [.lit (.bool true)], args := [d1, d2] }
  | _ => none }
def blakeAddsRow : OpenClaim := { program := "ytojdgfocpmlpfaadoor", sum := "a1ae9cc2ee9d876b62bc3593ab24c6b9dbd986ae9e97839ba3cb0375ca0bedfc", func := "signet/signetlaw.BlakeAdds", spec := "blakeAdds", unfollowed := true, recurses := true, named := ["signet/blake.first", "signet/blake.orders", "signet/signetref.iv"], apart := false, laid := [("signet/blake.first", laid_signet_blake_first), ("signet/blake.orders", laid_signet_blake_orders), ("signet/signetref.iv", laid_signet_signetref_iv)] }
def BlakeAddsSaid : Prop := blakeAddsRow.holds Tryd.pinned (OpenSpec.ofChange blakeAddsSpec)

/-- ITS FALSE NEIGHBOUR: 'it returns false'. Refute it at one input. -/
def blakeAddsWrong : ChangeSpec := { name := "blakeAdds", fn := fun _ => fun
  | [d1, d2] => { results := [.lit (.bool false)], args := [d1, d2] }
  | _ => none }
def BlakeAddsWrongFalsely : Prop := blakeAddsRow.holds Tryd.pinned (OpenSpec.ofChange blakeAddsWrong)

/-- 'signetlaw.BlakeSums': WHATEVER THE INPUT: true; the input reads as it did. -/
def blakeSumsSpec : ChangeSpec := { name := "blakeSums", fn := fun _ => fun
  | [d] => { results := [.lit (.bool true)], args := [d] }
  | _ => none }
def blakeSumsRow : OpenClaim := { program := "ytojdgfocpmlpfaadoor", sum := "a1ae9cc2ee9d876b62bc3593ab24c6b9dbd986ae9e97839ba3cb0375ca0bedfc", func := "signet/signetlaw.BlakeSums", spec := "blakeSums", unfollowed := true, recurses := true, named := ["signet/blake.first", "signet/blake.orders", "signet/signetref.iv"], apart := false, laid := [("signet/blake.first", laid_signet_blake_first), ("signet/blake.orders", laid_signet_blake_orders), ("signet/signetref.iv", laid_signet_signetref_iv)] }
def BlakeSumsSaid : Prop := blakeSumsRow.holds Tryd.pinned (OpenSpec.ofChange blakeSumsSpec)

/-- ITS FALSE NEIGHBOUR: 'it returns false'. Refute it at one input. -/
def blakeSumsWrong : ChangeSpec := { name := "blakeSums", fn := fun _ => fun
  | [d] => { results := [.lit (.bool false)], args := [d] }
  | _ => none }
def BlakeSumsWrongFalsely : Prop := blakeSumsRow.holds Tryd.pinned (OpenSpec.ofChange blakeSumsWrong)

/-- 'signetlaw.KdfMacs': WHATEVER THE INPUT: true; the input reads as it did. -/
def kdfMacsSpec : ChangeSpec := { name := "kdfMacs", fn := fun _ => fun
  | [d1, d2] => { results := [.lit (.bool true)], args := [d1, d2] }
  | _ => none }
def kdfMacsRow : OpenClaim := { program := "ytojdgfocpmlpfaadoor", sum := "a1ae9cc2ee9d876b62bc3593ab24c6b9dbd986ae9e97839ba3cb0375ca0bedfc", func := "signet/signetlaw.KdfMacs", spec := "kdfMacs", unfollowed := true, recurses := true, named := ["signet/blake.first", "signet/blake.orders", "signet/signetref.iv"], apart := false, laid := [("signet/blake.first", laid_signet_blake_first), ("signet/blake.orders", laid_signet_blake_orders), ("signet/signetref.iv", laid_signet_signetref_iv)] }
def KdfMacsSaid : Prop := kdfMacsRow.holds Tryd.pinned (OpenSpec.ofChange kdfMacsSpec)

/-- ITS FALSE NEIGHBOUR: 'it returns false'. Refute it at one input. -/
def kdfMacsWrong : ChangeSpec := { name := "kdfMacs", fn := fun _ => fun
  | [d1, d2] => { results := [.lit (.bool false)], args := [d1, d2] }
  | _ => none }
def KdfMacsWrongFalsely : Prop := kdfMacsRow.holds Tryd.pinned (OpenSpec.ofChange kdfMacsWrong)

/-- 'signetlaw.KdfKeys': WHATEVER THE INPUT: true; the input reads as it did. -/
def kdfKeysSpec : ChangeSpec := { name := "kdfKeys", fn := fun _ => fun
  | [d1, d2] => { results := [.lit (.bool true)], args := [d1, d2] }
  | _ => none }
def kdfKeysRow : OpenClaim := { program := "ytojdgfocpmlpfaadoor", sum := "a1ae9cc2ee9d876b62bc3593ab24c6b9dbd986ae9e97839ba3cb0375ca0bedfc", func := "signet/signetlaw.KdfKeys", spec := "kdfKeys", unfollowed := true, recurses := true, named := ["signet/blake.first", "signet/blake.orders", "signet/signetref.iv"], apart := false, laid := [("signet/blake.first", laid_signet_blake_first), ("signet/blake.orders", laid_signet_blake_orders), ("signet/signetref.iv", laid_signet_signetref_iv)] }
def KdfKeysSaid : Prop := kdfKeysRow.holds Tryd.pinned (OpenSpec.ofChange kdfKeysSpec)

/-- ITS FALSE NEIGHBOUR: 'it returns false'. Refute it at one input. -/
def kdfKeysWrong : ChangeSpec := { name := "kdfKeys", fn := fun _ => fun
  | [d1, d2] => { results := [.lit (.bool false)], args := [d1, d2] }
  | _ => none }
def KdfKeysWrongFalsely : Prop := kdfKeysRow.holds Tryd.pinned (OpenSpec.ofChange kdfKeysWrong)

/-- 'signetlaw.SymBegins': WHATEVER THE INPUT: true; the input reads as it did. -/
def symBeginsSpec : ChangeSpec := { name := "symBegins", fn := fun _ => fun
  | [d1, d2] => { results := [.lit (.bool true)], args := [d1, d2] }
  | _ => none }
def symBeginsRow : OpenClaim := { program := "ytojdgfocpmlpfaadoor", sum := "a1ae9cc2ee9d876b62bc3593ab24c6b9dbd986ae9e97839ba3cb0375ca0bedfc", func := "signet/signetlaw.SymBegins", spec := "symBegins", unfollowed := true, recurses := true, named := ["signet/blake.first", "signet/blake.orders", "signet/signetref.iv"], apart := false, laid := [("signet/blake.first", laid_signet_blake_first), ("signet/blake.orders", laid_signet_blake_orders), ("signet/signetref.iv", laid_signet_signetref_iv)] }
def SymBeginsSaid : Prop := symBeginsRow.holds Tryd.pinned (OpenSpec.ofChange symBeginsSpec)

/-- ITS FALSE NEIGHBOUR: 'it returns false'. Refute it at one input. -/
def symBeginsWrong : ChangeSpec := { name := "symBegins", fn := fun _ => fun
  | [d1, d2] => { results := [.lit (.bool false)], args := [d1, d2] }
  | _ => none }
def SymBeginsWrongFalsely : Prop := symBeginsRow.holds Tryd.pinned (OpenSpec.ofChange symBeginsWrong)

/-- 'signetlaw.SymMixes': WHATEVER THE INPUT: true; the input reads as it did. -/
def symMixesSpec : ChangeSpec := { name := "symMixes", fn := fun _ => fun
  | [d1, d2] => { results := [.lit (.bool true)], args := [d1, d2] }
  | _ => none }
def symMixesRow : OpenClaim := { program := "ytojdgfocpmlpfaadoor", sum := "a1ae9cc2ee9d876b62bc3593ab24c6b9dbd986ae9e97839ba3cb0375ca0bedfc", func := "signet/signetlaw.SymMixes", spec := "symMixes", unfollowed := true, recurses := true, named := ["signet/blake.first", "signet/blake.orders", "signet/signetref.iv"], apart := false, laid := [("signet/blake.first", laid_signet_blake_first), ("signet/blake.orders", laid_signet_blake_orders), ("signet/signetref.iv", laid_signet_signetref_iv)] }
def SymMixesSaid : Prop := symMixesRow.holds Tryd.pinned (OpenSpec.ofChange symMixesSpec)

/-- ITS FALSE NEIGHBOUR: 'it returns false'. Refute it at one input. -/
def symMixesWrong : ChangeSpec := { name := "symMixes", fn := fun _ => fun
  | [d1, d2] => { results := [.lit (.bool false)], args := [d1, d2] }
  | _ => none }
def SymMixesWrongFalsely : Prop := symMixesRow.holds Tryd.pinned (OpenSpec.ofChange symMixesWrong)

/- THE SECOND FORM. 'bulk': how many values and letters a reading holds, each counted each time it is reached (what is shared counts as often as it is met; a slice's spare places count too). A statement '..UptoSaid' is the law's where the arguments, and the package variables that the reading takes, are together of bulk at most 1048576: NARROWER than '..Said'. Prove '..Said' where nothing that the law and all that it calls make is longer than what came in: it says more and counts as full. Else prove '..UptoSaid'. A law counts once. -/
mutual
def uptoBulk {H : Type} : DataW H → Nat
  | .lit (.string bytes) => bytes.length + 1
  | .lit _ => 1
  | .nil => 1
  | .ptr d => uptoBulk d + 1
  | .slice elems spare => uptoBulkAll elems + uptoBulkAll spare + 1
  | .agg parts => uptoBulkAll parts + 1
  | .iface _ d => uptoBulk d + 1
  | .map entries => uptoBulkEntries entries + 1
  | .held _ => 1
def uptoBulkAll {H : Type} : List (DataW H) → Nat
  | [] => 0
  | d :: r => uptoBulk d + uptoBulkAll r
def uptoBulkEntries {H : Type} : List (Lit × DataW H) → Nat
  | [] => 0
  | x :: r => uptoBulkEntry x + uptoBulkEntries r
def uptoBulkEntry {H : Type} : Lit × DataW H → Nat
  | (.string bytes, d) => bytes.length + uptoBulk d + 1
  | (_, d) => uptoBulk d + 1
 end
def uptoSmall : (H : Type) → List (DataW H) → Bool := fun _ ds => decide (uptoBulkAll ds ≤ 1048576)
def OpenSpec.upto (s : _root_.Go.ChangeSpec) : _root_.Go.OpenSpec := { _root_.Go.OpenSpec.ofChange s with cond := some uptoSmall }

/-- 'signetlaw.BlakeEnds', WHERE WHAT IT READS IS OF BULK AT MOST 1048576: true; the input reads as it did. -/
def blakeEndsUptoRow : OpenClaim := { program := "ytojdgfocpmlpfaadoor", sum := "a1ae9cc2ee9d876b62bc3593ab24c6b9dbd986ae9e97839ba3cb0375ca0bedfc", func := "signet/signetlaw.BlakeEnds", spec := "blakeEnds", unfollowed := true, recurses := true, named := ["signet/blake.first", "signet/blake.orders", "signet/signetref.iv"], apart := false, laid := [("signet/blake.first", laid_signet_blake_first), ("signet/blake.orders", laid_signet_blake_orders), ("signet/signetref.iv", laid_signet_signetref_iv)], narrowed := true }
def BlakeEndsUptoSaid : Prop := blakeEndsUptoRow.holds Tryd.pinned (OpenSpec.upto blakeEndsSpec)

/-- 'signetlaw.BlakeAdds', WHERE WHAT IT READS IS OF BULK AT MOST 1048576: true; the input reads as it did. -/
def blakeAddsUptoRow : OpenClaim := { program := "ytojdgfocpmlpfaadoor", sum := "a1ae9cc2ee9d876b62bc3593ab24c6b9dbd986ae9e97839ba3cb0375ca0bedfc", func := "signet/signetlaw.BlakeAdds", spec := "blakeAdds", unfollowed := true, recurses := true, named := ["signet/blake.first", "signet/blake.orders", "signet/signetref.iv"], apart := false, laid := [("signet/blake.first", laid_signet_blake_first), ("signet/blake.orders", laid_signet_blake_orders), ("signet/signetref.iv", laid_signet_signetref_iv)], narrowed := true }
def BlakeAddsUptoSaid : Prop := blakeAddsUptoRow.holds Tryd.pinned (OpenSpec.upto blakeAddsSpec)

/-- 'signetlaw.BlakeSums', WHERE WHAT IT READS IS OF BULK AT MOST 1048576: true; the input reads as it did. -/
def blakeSumsUptoRow : OpenClaim := { program := "ytojdgfocpmlpfaadoor", sum := "a1ae9cc2ee9d876b62bc3593ab24c6b9dbd986ae9e97839ba3cb0375ca0bedfc", func := "signet/signetlaw.BlakeSums", spec := "blakeSums", unfollowed := true, recurses := true, named := ["signet/blake.first", "signet/blake.orders", "signet/signetref.iv"], apart := false, laid := [("signet/blake.first", laid_signet_blake_first), ("signet/blake.orders", laid_signet_blake_orders), ("signet/signetref.iv", laid_signet_signetref_iv)], narrowed := true }
def BlakeSumsUptoSaid : Prop := blakeSumsUptoRow.holds Tryd.pinned (OpenSpec.upto blakeSumsSpec)

/-- 'signetlaw.KdfMacs', WHERE WHAT IT READS IS OF BULK AT MOST 1048576: true; the input reads as it did. -/
def kdfMacsUptoRow : OpenClaim := { program := "ytojdgfocpmlpfaadoor", sum := "a1ae9cc2ee9d876b62bc3593ab24c6b9dbd986ae9e97839ba3cb0375ca0bedfc", func := "signet/signetlaw.KdfMacs", spec := "kdfMacs", unfollowed := true, recurses := true, named := ["signet/blake.first", "signet/blake.orders", "signet/signetref.iv"], apart := false, laid := [("signet/blake.first", laid_signet_blake_first), ("signet/blake.orders", laid_signet_blake_orders), ("signet/signetref.iv", laid_signet_signetref_iv)], narrowed := true }
def KdfMacsUptoSaid : Prop := kdfMacsUptoRow.holds Tryd.pinned (OpenSpec.upto kdfMacsSpec)

/-- 'signetlaw.KdfKeys', WHERE WHAT IT READS IS OF BULK AT MOST 1048576: true; the input reads as it did. -/
def kdfKeysUptoRow : OpenClaim := { program := "ytojdgfocpmlpfaadoor", sum := "a1ae9cc2ee9d876b62bc3593ab24c6b9dbd986ae9e97839ba3cb0375ca0bedfc", func := "signet/signetlaw.KdfKeys", spec := "kdfKeys", unfollowed := true, recurses := true, named := ["signet/blake.first", "signet/blake.orders", "signet/signetref.iv"], apart := false, laid := [("signet/blake.first", laid_signet_blake_first), ("signet/blake.orders", laid_signet_blake_orders), ("signet/signetref.iv", laid_signet_signetref_iv)], narrowed := true }
def KdfKeysUptoSaid : Prop := kdfKeysUptoRow.holds Tryd.pinned (OpenSpec.upto kdfKeysSpec)

/-- 'signetlaw.SymBegins', WHERE WHAT IT READS IS OF BULK AT MOST 1048576: true; the input reads as it did. -/
def symBeginsUptoRow : OpenClaim := { program := "ytojdgfocpmlpfaadoor", sum := "a1ae9cc2ee9d876b62bc3593ab24c6b9dbd986ae9e97839ba3cb0375ca0bedfc", func := "signet/signetlaw.SymBegins", spec := "symBegins", unfollowed := true, recurses := true, named := ["signet/blake.first", "signet/blake.orders", "signet/signetref.iv"], apart := false, laid := [("signet/blake.first", laid_signet_blake_first), ("signet/blake.orders", laid_signet_blake_orders), ("signet/signetref.iv", laid_signet_signetref_iv)], narrowed := true }
def SymBeginsUptoSaid : Prop := symBeginsUptoRow.holds Tryd.pinned (OpenSpec.upto symBeginsSpec)

/-- 'signetlaw.SymMixes', WHERE WHAT IT READS IS OF BULK AT MOST 1048576: true; the input reads as it did. -/
def symMixesUptoRow : OpenClaim := { program := "ytojdgfocpmlpfaadoor", sum := "a1ae9cc2ee9d876b62bc3593ab24c6b9dbd986ae9e97839ba3cb0375ca0bedfc", func := "signet/signetlaw.SymMixes", spec := "symMixes", unfollowed := true, recurses := true, named := ["signet/blake.first", "signet/blake.orders", "signet/signetref.iv"], apart := false, laid := [("signet/blake.first", laid_signet_blake_first), ("signet/blake.orders", laid_signet_blake_orders), ("signet/signetref.iv", laid_signet_signetref_iv)], narrowed := true }
def SymMixesUptoSaid : Prop := symMixesUptoRow.holds Tryd.pinned (OpenSpec.upto symMixesSpec)

end Rows
end Go.Proofs.YtojdgfocpmlpfaaDoor
