/-
  DERIVED. GIVEN WITH THE SEED: THE PROGRAM's TIES (one call each: nine closed facts by the kernel) AND EACH ROW's TIE, after the 31st guide's Derived/Test/Toyas{Tie, Card}.lean. No idea stands in it: it is a product of the set-up. Laid BY PROGRAM, IN A SANDBOX (cutbox-door.mjs). By AI agents, Wed Nov 11 2026. No macro, syntax, notation, axiom, sorry.
-/
import Derived.Test.YtlngaojnfcaagaaDoorRows
import Derived.LaidByTextLater
import Derived.SevenTiedAt
import Derived.LaidSub
import Derived.LaidOnce
namespace Go.Proofs.YtlngaojnfcaagaaDoor
open Go
set_option maxRecDepth 100000
theorem seatTie1 : Tryd.prog.laidByTextLater [("signet/blake.first", Rows.laid_signet_blake_first), ("signet/blake.orders", Rows.laid_signet_blake_orders), ("signet/signetref.iv", Rows.laid_signet_signetref_iv)] [.data, .data, .data] true :=
  Program.laidByTextLater_by_one 34 8 161 (by kernel_rfl) (by kernel_rfl) (by kernel_rfl) (by kernel_rfl) (by kernel_rfl) (by kernel_rfl) (fun _ _ => by kernel_rfl)
theorem noOwnUnsafe : Tryd.pinned.checked.prog.headLifts.contains "ownunsafe" = false := by kernel_rfl
theorem tie : Tryd.prog.laidByTextLater [("signet/blake.first", Rows.laid_signet_blake_first), ("signet/blake.orders", Rows.laid_signet_blake_orders), ("signet/signetref.iv", Rows.laid_signet_signetref_iv)] [.data, .data, .data] true :=
  Program.laidByTextLater.sub seatTie1 ["signet/blake.first", "signet/blake.orders", "signet/signetref.iv"] (by kernel_rfl) (by kernel_rfl)
theorem symSeals_row_tie : Rows.symSealsRow.laidByTextAt .later Tryd.pinned [.data, .data, .data] true :=
  OpenClaim.laidByTextAt_later rfl rfl tie noOwnUnsafe
theorem symSealsUpto_row_tie : Rows.symSealsUptoRow.laidByTextAt .later Tryd.pinned [.data, .data, .data] true :=
  OpenClaim.laidByTextAt_later rfl rfl tie noOwnUnsafe
end Go.Proofs.YtlngaojnfcaagaaDoor
