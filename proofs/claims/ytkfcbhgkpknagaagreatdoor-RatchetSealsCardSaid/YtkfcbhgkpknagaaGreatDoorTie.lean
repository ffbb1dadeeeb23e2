/-
  DERIVED. GIVEN WITH THE SEED: THE PROGRAM's TIES (one call each: nine closed facts by the kernel) AND EACH ROW's TIE, after the 31st guide's Derived/Test/Toyas{Tie, Card}.lean. No idea stands in it: it is a product of the set-up. Laid BY PROGRAM, IN A SANDBOX (cutbox-door.mjs). By AI agents, Wed Nov 11 2026. No macro, syntax, notation, axiom, sorry.
-/
import Derived.Test.YtkfcbhgkpknagaaGreatDoorRows
import Derived.LaidByTextLater
import Derived.SevenTiedAt
import Derived.LaidSub
import Derived.LaidOnce
namespace Go.Proofs.YtkfcbhgkpknagaaGreatDoor
open Go
set_option maxRecDepth 100000
theorem seatTie1 : Tryz.prog.laidByTextLater [("signet/blake.first", Rows.laid_signet_blake_first), ("signet/blake.orders", Rows.laid_signet_blake_orders), ("signet/field.prime", Rows.laid_signet_field_prime), ("signet/signetref.iv", Rows.laid_signet_signetref_iv), ("signet/signetref.prime", Rows.laid_signet_signetref_prime)] [.data, .data, .data, .data, .data] true :=
  Program.laidByTextLater_by_one 44 8 161 (by kernel_rfl) (by kernel_rfl) (by kernel_rfl) (by kernel_rfl) (by kernel_rfl) (by kernel_rfl) (fun _ _ => by kernel_rfl)
theorem noOwnUnsafe : Tryz.pinned.checked.prog.headLifts.contains "ownunsafe" = false := by kernel_rfl
theorem tie : Tryz.prog.laidByTextLater [("signet/blake.first", Rows.laid_signet_blake_first), ("signet/blake.orders", Rows.laid_signet_blake_orders), ("signet/field.prime", Rows.laid_signet_field_prime), ("signet/signetref.iv", Rows.laid_signet_signetref_iv), ("signet/signetref.prime", Rows.laid_signet_signetref_prime)] [.data, .data, .data, .data, .data] true :=
  Program.laidByTextLater.sub seatTie1 ["signet/blake.first", "signet/blake.orders", "signet/field.prime", "signet/signetref.iv", "signet/signetref.prime"] (by kernel_rfl) (by kernel_rfl)
theorem ratchetSeals_row_tie : Rows.ratchetSealsRow.laidByTextAt .later Tryz.pinned [.data, .data, .data, .data, .data] true :=
  OpenClaim.laidByTextAt_later rfl rfl tie noOwnUnsafe
theorem ratchetOpens_row_tie : Rows.ratchetOpensRow.laidByTextAt .later Tryz.pinned [.data, .data, .data, .data, .data] true :=
  OpenClaim.laidByTextAt_later rfl rfl tie noOwnUnsafe
theorem ratchetSealsUpto_row_tie : Rows.ratchetSealsUptoRow.laidByTextAt .later Tryz.pinned [.data, .data, .data, .data, .data] true :=
  OpenClaim.laidByTextAt_later rfl rfl tie noOwnUnsafe
theorem ratchetOpensUpto_row_tie : Rows.ratchetOpensUptoRow.laidByTextAt .later Tryz.pinned [.data, .data, .data, .data, .data] true :=
  OpenClaim.laidByTextAt_later rfl rfl tie noOwnUnsafe
end Go.Proofs.YtkfcbhgkpknagaaGreatDoor
