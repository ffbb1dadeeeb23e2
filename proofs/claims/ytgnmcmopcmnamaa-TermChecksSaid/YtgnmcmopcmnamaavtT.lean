/- Facts on the types of the program. -/
import Derived.Test.YtgnmcmopcmnamaaProg
import Derived.Test.YtgnmcmopcmnamaavE2
import Derived.KernelRfl
set_option linter.unusedVariables false
set_option linter.unusedSimpArgs false
namespace Go.Sy
open Go.Proofs
attribute [local irreducible] atCall HT runOps runD onC onE onO onG goV goA goS onSt onGuard
theorem mixed : Try.prog.follows .mixedOrders = true := by kernel_rfl
@[go_sem] theorem sz3 : Try.prog.cellsOf 3 = 1 := by kernel_rfl
@[go_sem] theorem bo3 : Try.prog.bytesOf 3 = 8 := by kernel_rfl
attribute [go_sem] Try.underlying3
@[go_sem] theorem zc3 : zeroC Try.prog 3 = some (L.pl (.i 0) :: []) := by kernel_rfl
@[go_sem] theorem sz4 : Try.prog.cellsOf 4 = 1 := by kernel_rfl
@[go_sem] theorem bo4 : Try.prog.bytesOf 4 = 1 := by kernel_rfl
attribute [go_sem] Try.underlying4
@[go_sem] theorem zc4 : zeroC Try.prog 4 = some (L.pl (.b false) :: []) := by kernel_rfl
@[go_sem] theorem sz9 : Try.prog.cellsOf 9 = 1 := by kernel_rfl
@[go_sem] theorem bo9 : Try.prog.bytesOf 9 = 16 := by kernel_rfl
attribute [go_sem] Try.underlying9
@[go_sem] theorem zc9 : zeroC Try.prog 9 = some (L.pl (.str []) :: []) := by kernel_rfl
@[go_sem] theorem sz22 : Try.prog.cellsOf 22 = 1 := by kernel_rfl
@[go_sem] theorem bo22 : Try.prog.bytesOf 22 = 24 := by kernel_rfl
attribute [go_sem] Try.underlying22
@[go_sem] theorem zc22 : zeroC Try.prog 22 = some (L.pl (.R true 1 []) :: []) := by kernel_rfl
@[go_sem] theorem sz23 : Try.prog.cellsOf 23 = 4 := by kernel_rfl
@[go_sem] theorem bo23 : Try.prog.bytesOf 23 = 48 := by kernel_rfl
attribute [go_sem] Try.underlying23
@[go_sem] theorem zc23 : zeroC Try.prog 23 = some (L.pl (.i 0) :: L.pl (.i 0) :: L.pl (.i 0) :: L.pl (.R true 1 []) :: []) := by kernel_rfl
@[go_sem] theorem ag23 : isAggT Try.prog 23 = true := by kernel_rfl
@[go_sem] theorem sz24 : Try.prog.cellsOf 24 = 4 := by kernel_rfl
@[go_sem] theorem bo24 : Try.prog.bytesOf 24 = 48 := by kernel_rfl
attribute [go_sem] Try.underlying24
@[go_sem] theorem zc24 : zeroC Try.prog 24 = some (L.pl (.i 0) :: L.pl (.i 0) :: L.pl (.i 0) :: L.pl (.R true 1 []) :: []) := by kernel_rfl
@[go_sem] theorem ag24 : isAggT Try.prog 24 = true := by kernel_rfl
@[go_sem] theorem sz25 : Try.prog.cellsOf 25 = 1 := by kernel_rfl
@[go_sem] theorem bo25 : Try.prog.bytesOf 25 = 8 := by kernel_rfl
attribute [go_sem] Try.underlying25
@[go_sem] theorem zc25 : zeroC Try.prog 25 = some (L.pl (.i 0) :: []) := by kernel_rfl
@[go_sem] theorem sz28 : Try.prog.cellsOf 28 = 1 := by kernel_rfl
@[go_sem] theorem bo28 : Try.prog.bytesOf 28 = 24 := by kernel_rfl
attribute [go_sem] Try.underlying28
@[go_sem] theorem zc28 : zeroC Try.prog 28 = some (L.pl (.R true 1 []) :: []) := by kernel_rfl
@[go_sem] theorem sz29 : Try.prog.cellsOf 29 = 2 := by kernel_rfl
@[go_sem] theorem bo29 : Try.prog.bytesOf 29 = 48 := by kernel_rfl
attribute [go_sem] Try.underlying29
@[go_sem] theorem zc29 : zeroC Try.prog 29 = some (L.pl (.R true 1 []) :: L.pl (.R true 1 []) :: []) := by kernel_rfl
@[go_sem] theorem ag29 : isAggT Try.prog 29 = true := by kernel_rfl
@[go_sem] theorem sz30 : Try.prog.cellsOf 30 = 1 := by kernel_rfl
@[go_sem] theorem bo30 : Try.prog.bytesOf 30 = 24 := by kernel_rfl
attribute [go_sem] Try.underlying30
@[go_sem] theorem zc30 : zeroC Try.prog 30 = some (L.pl (.R true 1 []) :: []) := by kernel_rfl
@[go_sem] theorem sz31 : Try.prog.cellsOf 31 = 6 := by kernel_rfl
@[go_sem] theorem bo31 : Try.prog.bytesOf 31 = 120 := by kernel_rfl
attribute [go_sem] Try.underlying31
@[go_sem] theorem zc31 : zeroC Try.prog 31 = some (L.pl (.str []) :: L.pl (.b false) :: L.pl (.R true 1 []) :: L.pl (.R true 1 []) :: L.pl (.R true 1 []) :: L.pl (.R true 1 []) :: []) := by kernel_rfl
@[go_sem] theorem ag31 : isAggT Try.prog 31 = true := by kernel_rfl
@[go_sem] theorem sz32 : Try.prog.cellsOf 32 = 6 := by kernel_rfl
@[go_sem] theorem bo32 : Try.prog.bytesOf 32 = 120 := by kernel_rfl
attribute [go_sem] Try.underlying32
@[go_sem] theorem zc32 : zeroC Try.prog 32 = some (L.pl (.str []) :: L.pl (.b false) :: L.pl (.R true 1 []) :: L.pl (.R true 1 []) :: L.pl (.R true 1 []) :: L.pl (.R true 1 []) :: []) := by kernel_rfl
@[go_sem] theorem ag32 : isAggT Try.prog 32 = true := by kernel_rfl
@[go_sem] theorem sz37 : Try.prog.cellsOf 37 = 3 := by kernel_rfl
@[go_sem] theorem bo37 : Try.prog.bytesOf 37 = 3 := by kernel_rfl
attribute [go_sem] Try.underlying37
@[go_sem] theorem zc37 : zeroC Try.prog 37 = some (L.pl (.b false) :: L.pl (.b false) :: L.pl (.b false) :: []) := by kernel_rfl
@[go_sem] theorem ag37 : isAggT Try.prog 37 = true := by kernel_rfl
@[go_sem] theorem sz38 : Try.prog.cellsOf 38 = 3 := by kernel_rfl
@[go_sem] theorem bo38 : Try.prog.bytesOf 38 = 3 := by kernel_rfl
attribute [go_sem] Try.underlying38
@[go_sem] theorem zc38 : zeroC Try.prog 38 = some (L.pl (.b false) :: L.pl (.b false) :: L.pl (.b false) :: []) := by kernel_rfl
@[go_sem] theorem ag38 : isAggT Try.prog 38 = true := by kernel_rfl
@[go_sem] theorem sz39 : Try.prog.cellsOf 39 = 6 := by kernel_rfl
@[go_sem] theorem bo39 : Try.prog.bytesOf 39 = 6 := by kernel_rfl
attribute [go_sem] Try.underlying39
@[go_sem] theorem zc39 : zeroC Try.prog 39 = some (L.pl (.b false) :: L.pl (.b false) :: L.pl (.b false) :: L.pl (.b false) :: L.pl (.b false) :: L.pl (.b false) :: []) := by kernel_rfl
@[go_sem] theorem ag39 : isAggT Try.prog 39 = true := by kernel_rfl
@[go_sem] theorem sz40 : Try.prog.cellsOf 40 = 8 := by kernel_rfl
@[go_sem] theorem bo40 : Try.prog.bytesOf 40 = 8 := by kernel_rfl
attribute [go_sem] Try.underlying40
@[go_sem] theorem zc40 : zeroC Try.prog 40 = some (L.pl (.b false) :: L.pl (.b false) :: L.pl (.b false) :: L.pl (.b false) :: L.pl (.b false) :: L.pl (.b false) :: L.pl (.b false) :: L.pl (.b false) :: []) := by kernel_rfl
@[go_sem] theorem ag40 : isAggT Try.prog 40 = true := by kernel_rfl
@[go_sem] theorem sz41 : Try.prog.cellsOf 41 = 15 := by kernel_rfl
@[go_sem] theorem bo41 : Try.prog.bytesOf 41 = 15 := by kernel_rfl
attribute [go_sem] Try.underlying41
@[go_sem] theorem zc41 : zeroC Try.prog 41 = some (L.pl (.b false) :: L.pl (.b false) :: L.pl (.b false) :: L.pl (.b false) :: L.pl (.b false) :: L.pl (.b false) :: L.pl (.b false) :: L.pl (.b false) :: L.pl (.b false) :: L.pl (.b false) :: L.pl (.b false) :: L.pl (.b false) :: L.pl (.b false) :: L.pl (.b false) :: L.pl (.b false) :: []) := by kernel_rfl
@[go_sem] theorem ag41 : isAggT Try.prog 41 = true := by kernel_rfl
@[go_sem] theorem sz42 : Try.prog.cellsOf 42 = 15 := by kernel_rfl
@[go_sem] theorem bo42 : Try.prog.bytesOf 42 = 15 := by kernel_rfl
attribute [go_sem] Try.underlying42
@[go_sem] theorem zc42 : zeroC Try.prog 42 = some (L.pl (.b false) :: L.pl (.b false) :: L.pl (.b false) :: L.pl (.b false) :: L.pl (.b false) :: L.pl (.b false) :: L.pl (.b false) :: L.pl (.b false) :: L.pl (.b false) :: L.pl (.b false) :: L.pl (.b false) :: L.pl (.b false) :: L.pl (.b false) :: L.pl (.b false) :: L.pl (.b false) :: []) := by kernel_rfl
@[go_sem] theorem ag42 : isAggT Try.prog 42 = true := by kernel_rfl
@[go_sem] theorem sz46 : Try.prog.cellsOf 46 = 1 := by kernel_rfl
@[go_sem] theorem bo46 : Try.prog.bytesOf 46 = 24 := by kernel_rfl
attribute [go_sem] Try.underlying46
@[go_sem] theorem zc46 : zeroC Try.prog 46 = some (L.pl (.R true 1 []) :: []) := by kernel_rfl
@[go_sem] theorem sz49 : Try.prog.cellsOf 49 = 2 := by kernel_rfl
@[go_sem] theorem bo49 : Try.prog.bytesOf 49 = 16 := by kernel_rfl
attribute [go_sem] Try.underlying49
@[go_sem] theorem zc49 : zeroC Try.prog 49 = some (L.pl (.i 0) :: L.pl (.i 0) :: []) := by kernel_rfl
@[go_sem] theorem ag49 : isAggT Try.prog 49 = true := by kernel_rfl
@[go_sem] theorem sz50 : Try.prog.cellsOf 50 = 2 := by kernel_rfl
@[go_sem] theorem bo50 : Try.prog.bytesOf 50 = 16 := by kernel_rfl
attribute [go_sem] Try.underlying50
@[go_sem] theorem zc50 : zeroC Try.prog 50 = some (L.pl (.i 0) :: L.pl (.i 0) :: []) := by kernel_rfl
@[go_sem] theorem ag50 : isAggT Try.prog 50 = true := by kernel_rfl
@[go_sem] theorem sz54 : Try.prog.cellsOf 54 = 2 := by kernel_rfl
@[go_sem] theorem bo54 : Try.prog.bytesOf 54 = 16 := by kernel_rfl
attribute [go_sem] Try.underlying54
@[go_sem] theorem zc54 : zeroC Try.prog 54 = some (L.pl (.i 0) :: L.pl (.i 0) :: []) := by kernel_rfl
@[go_sem] theorem ag54 : isAggT Try.prog 54 = true := by kernel_rfl
@[go_sem] theorem sz55 : Try.prog.cellsOf 55 = 4 := by kernel_rfl
@[go_sem] theorem bo55 : Try.prog.bytesOf 55 = 32 := by kernel_rfl
attribute [go_sem] Try.underlying55
@[go_sem] theorem zc55 : zeroC Try.prog 55 = some (L.pl (.i 0) :: L.pl (.i 0) :: L.pl (.i 0) :: L.pl (.i 0) :: []) := by kernel_rfl
@[go_sem] theorem ag55 : isAggT Try.prog 55 = true := by kernel_rfl
@[go_sem] theorem sz56 : Try.prog.cellsOf 56 = 8 := by kernel_rfl
@[go_sem] theorem bo56 : Try.prog.bytesOf 56 = 64 := by kernel_rfl
attribute [go_sem] Try.underlying56
@[go_sem] theorem zc56 : zeroC Try.prog 56 = some (L.pl (.i 0) :: L.pl (.i 0) :: L.pl (.i 0) :: L.pl (.i 0) :: L.pl (.i 0) :: L.pl (.i 0) :: L.pl (.i 0) :: L.pl (.i 0) :: []) := by kernel_rfl
@[go_sem] theorem ag56 : isAggT Try.prog 56 = true := by kernel_rfl
end Go.Sy

