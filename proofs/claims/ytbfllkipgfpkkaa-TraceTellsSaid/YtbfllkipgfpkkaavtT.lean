/- Facts on the types of the program. -/
import Derived.Test.YtbfllkipgfpkkaaProg
import Derived.Test.YtbfllkipgfpkkaavE3
import Derived.KernelRfl
set_option linter.unusedVariables false
set_option linter.unusedSimpArgs false
namespace Go.Sy
open Go.Proofs
attribute [local irreducible] atCall HT runOps runD onC onE onO onG goV goA goS onSt onGuard
theorem mixed : Try.prog.follows .mixedOrders = true := by kernel_rfl
@[go_sem] theorem sz3 : Try.prog.cellsOf 3 = 1 := by kernel_rfl
@[go_sem] theorem bo3 : Try.prog.bytesOf 3 = 8 := by kernel_rfl
attribute [go_sem] Try.underlying3
@[go_sem] theorem zc3 : zeroC Try.prog 3 = some (L.pl (.i 0) :: []) := by kernel_rfl
@[go_sem] theorem sz4 : Try.prog.cellsOf 4 = 1 := by kernel_rfl
@[go_sem] theorem bo4 : Try.prog.bytesOf 4 = 1 := by kernel_rfl
attribute [go_sem] Try.underlying4
@[go_sem] theorem zc4 : zeroC Try.prog 4 = some (L.pl (.b false) :: []) := by kernel_rfl
@[go_sem] theorem sz5 : Try.prog.cellsOf 5 = 1 := by kernel_rfl
@[go_sem] theorem bo5 : Try.prog.bytesOf 5 = 1 := by kernel_rfl
attribute [go_sem] Try.underlying5
@[go_sem] theorem zc5 : zeroC Try.prog 5 = some (L.pl (.u8 0) :: []) := by kernel_rfl
@[go_sem] theorem sz9 : Try.prog.cellsOf 9 = 1 := by kernel_rfl
@[go_sem] theorem bo9 : Try.prog.bytesOf 9 = 16 := by kernel_rfl
attribute [go_sem] Try.underlying9
@[go_sem] theorem zc9 : zeroC Try.prog 9 = some (L.pl (.str []) :: []) := by kernel_rfl
@[go_sem] theorem sz22 : Try.prog.cellsOf 22 = 1 := by kernel_rfl
@[go_sem] theorem bo22 : Try.prog.bytesOf 22 = 24 := by kernel_rfl
attribute [go_sem] Try.underlying22
@[go_sem] theorem zc22 : zeroC Try.prog 22 = some (L.pl (.R true 1 []) :: []) := by kernel_rfl
@[go_sem] theorem sz23 : Try.prog.cellsOf 23 = 2 := by kernel_rfl
@[go_sem] theorem bo23 : Try.prog.bytesOf 23 = 48 := by kernel_rfl
attribute [go_sem] Try.underlying23
@[go_sem] theorem zc23 : zeroC Try.prog 23 = some (L.pl (.R true 1 []) :: L.pl (.R true 1 []) :: []) := by kernel_rfl
@[go_sem] theorem ag23 : isAggT Try.prog 23 = true := by kernel_rfl
@[go_sem] theorem sz24 : Try.prog.cellsOf 24 = 1 := by kernel_rfl
@[go_sem] theorem bo24 : Try.prog.bytesOf 24 = 24 := by kernel_rfl
attribute [go_sem] Try.underlying24
@[go_sem] theorem zc24 : zeroC Try.prog 24 = some (L.pl (.R true 1 []) :: []) := by kernel_rfl
@[go_sem] theorem sz25 : Try.prog.cellsOf 25 = 6 := by kernel_rfl
@[go_sem] theorem bo25 : Try.prog.bytesOf 25 = 120 := by kernel_rfl
attribute [go_sem] Try.underlying25
@[go_sem] theorem zc25 : zeroC Try.prog 25 = some (L.pl (.str []) :: L.pl (.b false) :: L.pl (.R true 1 []) :: L.pl (.R true 1 []) :: L.pl (.R true 1 []) :: L.pl (.R true 1 []) :: []) := by kernel_rfl
@[go_sem] theorem ag25 : isAggT Try.prog 25 = true := by kernel_rfl
@[go_sem] theorem sz26 : Try.prog.cellsOf 26 = 6 := by kernel_rfl
@[go_sem] theorem bo26 : Try.prog.bytesOf 26 = 120 := by kernel_rfl
attribute [go_sem] Try.underlying26
@[go_sem] theorem zc26 : zeroC Try.prog 26 = some (L.pl (.str []) :: L.pl (.b false) :: L.pl (.R true 1 []) :: L.pl (.R true 1 []) :: L.pl (.R true 1 []) :: L.pl (.R true 1 []) :: []) := by kernel_rfl
@[go_sem] theorem ag26 : isAggT Try.prog 26 = true := by kernel_rfl
@[go_sem] theorem sz27 : Try.prog.cellsOf 27 = 1 := by kernel_rfl
@[go_sem] theorem bo27 : Try.prog.bytesOf 27 = 8 := by kernel_rfl
attribute [go_sem] Try.underlying27
@[go_sem] theorem zc27 : zeroC Try.prog 27 = some (L.pl (.i 0) :: []) := by kernel_rfl
@[go_sem] theorem sz30 : Try.prog.cellsOf 30 = 1 := by kernel_rfl
@[go_sem] theorem bo30 : Try.prog.bytesOf 30 = 24 := by kernel_rfl
attribute [go_sem] Try.underlying30
@[go_sem] theorem zc30 : zeroC Try.prog 30 = some (L.pl (.R true 1 []) :: []) := by kernel_rfl
@[go_sem] theorem sz31 : Try.prog.cellsOf 31 = 4 := by kernel_rfl
@[go_sem] theorem bo31 : Try.prog.bytesOf 31 = 48 := by kernel_rfl
attribute [go_sem] Try.underlying31
@[go_sem] theorem zc31 : zeroC Try.prog 31 = some (L.pl (.i 0) :: L.pl (.i 0) :: L.pl (.i 0) :: L.pl (.R true 1 []) :: []) := by kernel_rfl
@[go_sem] theorem ag31 : isAggT Try.prog 31 = true := by kernel_rfl
@[go_sem] theorem sz32 : Try.prog.cellsOf 32 = 4 := by kernel_rfl
@[go_sem] theorem bo32 : Try.prog.bytesOf 32 = 48 := by kernel_rfl
attribute [go_sem] Try.underlying32
@[go_sem] theorem zc32 : zeroC Try.prog 32 = some (L.pl (.i 0) :: L.pl (.i 0) :: L.pl (.i 0) :: L.pl (.R true 1 []) :: []) := by kernel_rfl
@[go_sem] theorem ag32 : isAggT Try.prog 32 = true := by kernel_rfl
@[go_sem] theorem sz42 : Try.prog.cellsOf 42 = 3 := by kernel_rfl
@[go_sem] theorem bo42 : Try.prog.bytesOf 42 = 3 := by kernel_rfl
attribute [go_sem] Try.underlying42
@[go_sem] theorem zc42 : zeroC Try.prog 42 = some (L.pl (.b false) :: L.pl (.b false) :: L.pl (.b false) :: []) := by kernel_rfl
@[go_sem] theorem ag42 : isAggT Try.prog 42 = true := by kernel_rfl
@[go_sem] theorem sz43 : Try.prog.cellsOf 43 = 3 := by kernel_rfl
@[go_sem] theorem bo43 : Try.prog.bytesOf 43 = 3 := by kernel_rfl
attribute [go_sem] Try.underlying43
@[go_sem] theorem zc43 : zeroC Try.prog 43 = some (L.pl (.b false) :: L.pl (.b false) :: L.pl (.b false) :: []) := by kernel_rfl
@[go_sem] theorem ag43 : isAggT Try.prog 43 = true := by kernel_rfl
@[go_sem] theorem sz44 : Try.prog.cellsOf 44 = 6 := by kernel_rfl
@[go_sem] theorem bo44 : Try.prog.bytesOf 44 = 6 := by kernel_rfl
attribute [go_sem] Try.underlying44
@[go_sem] theorem zc44 : zeroC Try.prog 44 = some (L.pl (.b false) :: L.pl (.b false) :: L.pl (.b false) :: L.pl (.b false) :: L.pl (.b false) :: L.pl (.b false) :: []) := by kernel_rfl
@[go_sem] theorem ag44 : isAggT Try.prog 44 = true := by kernel_rfl
@[go_sem] theorem sz45 : Try.prog.cellsOf 45 = 8 := by kernel_rfl
@[go_sem] theorem bo45 : Try.prog.bytesOf 45 = 8 := by kernel_rfl
attribute [go_sem] Try.underlying45
@[go_sem] theorem zc45 : zeroC Try.prog 45 = some (L.pl (.b false) :: L.pl (.b false) :: L.pl (.b false) :: L.pl (.b false) :: L.pl (.b false) :: L.pl (.b false) :: L.pl (.b false) :: L.pl (.b false) :: []) := by kernel_rfl
@[go_sem] theorem ag45 : isAggT Try.prog 45 = true := by kernel_rfl
@[go_sem] theorem sz46 : Try.prog.cellsOf 46 = 15 := by kernel_rfl
@[go_sem] theorem bo46 : Try.prog.bytesOf 46 = 15 := by kernel_rfl
attribute [go_sem] Try.underlying46
@[go_sem] theorem zc46 : zeroC Try.prog 46 = some (L.pl (.b false) :: L.pl (.b false) :: L.pl (.b false) :: L.pl (.b false) :: L.pl (.b false) :: L.pl (.b false) :: L.pl (.b false) :: L.pl (.b false) :: L.pl (.b false) :: L.pl (.b false) :: L.pl (.b false) :: L.pl (.b false) :: L.pl (.b false) :: L.pl (.b false) :: L.pl (.b false) :: []) := by kernel_rfl
@[go_sem] theorem ag46 : isAggT Try.prog 46 = true := by kernel_rfl
@[go_sem] theorem sz47 : Try.prog.cellsOf 47 = 15 := by kernel_rfl
@[go_sem] theorem bo47 : Try.prog.bytesOf 47 = 15 := by kernel_rfl
attribute [go_sem] Try.underlying47
@[go_sem] theorem zc47 : zeroC Try.prog 47 = some (L.pl (.b false) :: L.pl (.b false) :: L.pl (.b false) :: L.pl (.b false) :: L.pl (.b false) :: L.pl (.b false) :: L.pl (.b false) :: L.pl (.b false) :: L.pl (.b false) :: L.pl (.b false) :: L.pl (.b false) :: L.pl (.b false) :: L.pl (.b false) :: L.pl (.b false) :: L.pl (.b false) :: []) := by kernel_rfl
@[go_sem] theorem ag47 : isAggT Try.prog 47 = true := by kernel_rfl
@[go_sem] theorem sz51 : Try.prog.cellsOf 51 = 1 := by kernel_rfl
@[go_sem] theorem bo51 : Try.prog.bytesOf 51 = 24 := by kernel_rfl
attribute [go_sem] Try.underlying51
@[go_sem] theorem zc51 : zeroC Try.prog 51 = some (L.pl (.R true 1 []) :: []) := by kernel_rfl
@[go_sem] theorem sz54 : Try.prog.cellsOf 54 = 2 := by kernel_rfl
@[go_sem] theorem bo54 : Try.prog.bytesOf 54 = 16 := by kernel_rfl
attribute [go_sem] Try.underlying54
@[go_sem] theorem zc54 : zeroC Try.prog 54 = some (L.pl (.i 0) :: L.pl (.i 0) :: []) := by kernel_rfl
@[go_sem] theorem ag54 : isAggT Try.prog 54 = true := by kernel_rfl
@[go_sem] theorem sz55 : Try.prog.cellsOf 55 = 2 := by kernel_rfl
@[go_sem] theorem bo55 : Try.prog.bytesOf 55 = 16 := by kernel_rfl
attribute [go_sem] Try.underlying55
@[go_sem] theorem zc55 : zeroC Try.prog 55 = some (L.pl (.i 0) :: L.pl (.i 0) :: []) := by kernel_rfl
@[go_sem] theorem ag55 : isAggT Try.prog 55 = true := by kernel_rfl
@[go_sem] theorem sz59 : Try.prog.cellsOf 59 = 1 := by kernel_rfl
@[go_sem] theorem bo59 : Try.prog.bytesOf 59 = 24 := by kernel_rfl
attribute [go_sem] Try.underlying59
@[go_sem] theorem zc59 : zeroC Try.prog 59 = some (L.pl (.R true 1 []) :: []) := by kernel_rfl
@[go_sem] theorem sz68 : Try.prog.cellsOf 68 = 11 := by kernel_rfl
@[go_sem] theorem bo68 : Try.prog.bytesOf 68 = 136 := by kernel_rfl
attribute [go_sem] Try.underlying68
@[go_sem] theorem zc68 : zeroC Try.prog 68 = some (L.pl (.i 0) :: L.pl (.i 0) :: L.pl (.i 0) :: L.pl (.R true 1 []) :: L.pl (.i 0) :: L.pl (.i 0) :: L.pl (.i 0) :: L.pl (.R true 1 []) :: L.pl (.b false) :: L.pl (.i 0) :: L.pl (.R true 1 []) :: []) := by kernel_rfl
@[go_sem] theorem ag68 : isAggT Try.prog 68 = true := by kernel_rfl
@[go_sem] theorem sz69 : Try.prog.cellsOf 69 = 11 := by kernel_rfl
@[go_sem] theorem bo69 : Try.prog.bytesOf 69 = 136 := by kernel_rfl
attribute [go_sem] Try.underlying69
@[go_sem] theorem zc69 : zeroC Try.prog 69 = some (L.pl (.i 0) :: L.pl (.i 0) :: L.pl (.i 0) :: L.pl (.R true 1 []) :: L.pl (.i 0) :: L.pl (.i 0) :: L.pl (.i 0) :: L.pl (.R true 1 []) :: L.pl (.b false) :: L.pl (.i 0) :: L.pl (.R true 1 []) :: []) := by kernel_rfl
@[go_sem] theorem ag69 : isAggT Try.prog 69 = true := by kernel_rfl
@[go_sem] theorem sz74 : Try.prog.cellsOf 74 = 2 := by kernel_rfl
@[go_sem] theorem bo74 : Try.prog.bytesOf 74 = 16 := by kernel_rfl
attribute [go_sem] Try.underlying74
@[go_sem] theorem zc74 : zeroC Try.prog 74 = some (L.pl (.i 0) :: L.pl (.i 0) :: []) := by kernel_rfl
@[go_sem] theorem ag74 : isAggT Try.prog 74 = true := by kernel_rfl
@[go_sem] theorem sz75 : Try.prog.cellsOf 75 = 4 := by kernel_rfl
@[go_sem] theorem bo75 : Try.prog.bytesOf 75 = 32 := by kernel_rfl
attribute [go_sem] Try.underlying75
@[go_sem] theorem zc75 : zeroC Try.prog 75 = some (L.pl (.i 0) :: L.pl (.i 0) :: L.pl (.i 0) :: L.pl (.i 0) :: []) := by kernel_rfl
@[go_sem] theorem ag75 : isAggT Try.prog 75 = true := by kernel_rfl
@[go_sem] theorem sz80 : Try.prog.cellsOf 80 = 1 := by kernel_rfl
@[go_sem] theorem bo80 : Try.prog.bytesOf 80 = 24 := by kernel_rfl
attribute [go_sem] Try.underlying80
@[go_sem] theorem zc80 : zeroC Try.prog 80 = some (L.pl (.R true 1 []) :: []) := by kernel_rfl
@[go_sem] theorem sz81 : Try.prog.cellsOf 81 = 8 := by kernel_rfl
@[go_sem] theorem bo81 : Try.prog.bytesOf 81 = 64 := by kernel_rfl
attribute [go_sem] Try.underlying81
@[go_sem] theorem zc81 : zeroC Try.prog 81 = some (L.pl (.i 0) :: L.pl (.i 0) :: L.pl (.i 0) :: L.pl (.i 0) :: L.pl (.i 0) :: L.pl (.i 0) :: L.pl (.i 0) :: L.pl (.i 0) :: []) := by kernel_rfl
@[go_sem] theorem ag81 : isAggT Try.prog 81 = true := by kernel_rfl
end Go.Sy

