/- Facts on the types of the program. -/
import Derived.Test.YthngiogkogeigaaDoorProg
import Derived.Test.YthngiogkogeigaaDoorvE3
import Derived.KernelRfl
set_option linter.unusedVariables false
set_option linter.unusedSimpArgs false
namespace Go.Sy
open Go.Proofs
attribute [local irreducible] atCall HT runOps runD onC onE onO onG goV goA goS onSt onGuard
theorem mixed : Tryd.prog.follows .mixedOrders = true := by kernel_rfl
@[go_sem] theorem sz3 : Tryd.prog.cellsOf 3 = 1 := by kernel_rfl
@[go_sem] theorem bo3 : Tryd.prog.bytesOf 3 = 8 := by kernel_rfl
attribute [go_sem] Tryd.underlying3
@[go_sem] theorem zc3 : zeroC Tryd.prog 3 = some (L.pl (.i 0) :: []) := by kernel_rfl
@[go_sem] theorem sz4 : Tryd.prog.cellsOf 4 = 1 := by kernel_rfl
@[go_sem] theorem bo4 : Tryd.prog.bytesOf 4 = 1 := by kernel_rfl
attribute [go_sem] Tryd.underlying4
@[go_sem] theorem zc4 : zeroC Tryd.prog 4 = some (L.pl (.b false) :: []) := by kernel_rfl
@[go_sem] theorem sz5 : Tryd.prog.cellsOf 5 = 1 := by kernel_rfl
@[go_sem] theorem bo5 : Tryd.prog.bytesOf 5 = 1 := by kernel_rfl
attribute [go_sem] Tryd.underlying5
@[go_sem] theorem zc5 : zeroC Tryd.prog 5 = some (L.pl (.u8 0) :: []) := by kernel_rfl
@[go_sem] theorem sz22 : Tryd.prog.cellsOf 22 = 32 := by kernel_rfl
@[go_sem] theorem bo22 : Tryd.prog.bytesOf 22 = 32 := by kernel_rfl
attribute [go_sem] Tryd.underlying22
@[go_sem] theorem zc22 : zeroC Tryd.prog 22 = some (bytesC (List.replicate 32 0)) := by kernel_rfl
@[go_sem] theorem ag22 : isAggT Tryd.prog 22 = true := by kernel_rfl
@[go_sem] theorem ae22 {xs ys : List L} (hx : xs.map kindL = ((List.replicate 32 (Kd.int .u8) : List Kd)).map some) (hy : ys.map kindL = ((List.replicate 32 (Kd.int .u8) : List Kd)).map some) : aggEq Tryd.prog 22 xs ys = some (eqC xs ys) := aggEq_of (by kernel_rfl) (by kernel_rfl) hx hy
@[go_sem] theorem sz23 : Tryd.prog.cellsOf 23 = 32 := by kernel_rfl
@[go_sem] theorem bo23 : Tryd.prog.bytesOf 23 = 32 := by kernel_rfl
attribute [go_sem] Tryd.underlying23
@[go_sem] theorem zc23 : zeroC Tryd.prog 23 = some (bytesC (List.replicate 32 0)) := by kernel_rfl
@[go_sem] theorem ag23 : isAggT Tryd.prog 23 = true := by kernel_rfl
@[go_sem] theorem ae23 {xs ys : List L} (hx : xs.map kindL = ((List.replicate 32 (Kd.int .u8) : List Kd)).map some) (hy : ys.map kindL = ((List.replicate 32 (Kd.int .u8) : List Kd)).map some) : aggEq Tryd.prog 23 xs ys = some (eqC xs ys) := aggEq_of (by kernel_rfl) (by kernel_rfl) hx hy
@[go_sem] theorem sz29 : Tryd.prog.cellsOf 29 = 1 := by kernel_rfl
@[go_sem] theorem bo29 : Tryd.prog.bytesOf 29 = 8 := by kernel_rfl
attribute [go_sem] Tryd.underlying29
@[go_sem] theorem zc29 : zeroC Tryd.prog 29 = some (L.pl (.u64 0) :: []) := by kernel_rfl
@[go_sem] theorem sz30 : Tryd.prog.cellsOf 30 = 4 := by kernel_rfl
@[go_sem] theorem bo30 : Tryd.prog.bytesOf 30 = 32 := by kernel_rfl
attribute [go_sem] Tryd.underlying30
@[go_sem] theorem zc30 : zeroC Tryd.prog 30 = some (L.pl (.u64 0) :: L.pl (.u64 0) :: L.pl (.u64 0) :: L.pl (.u64 0) :: []) := by kernel_rfl
@[go_sem] theorem ag30 : isAggT Tryd.prog 30 = true := by kernel_rfl
@[go_sem] theorem sz31 : Tryd.prog.cellsOf 31 = 4 := by kernel_rfl
@[go_sem] theorem bo31 : Tryd.prog.bytesOf 31 = 32 := by kernel_rfl
attribute [go_sem] Tryd.underlying31
@[go_sem] theorem zc31 : zeroC Tryd.prog 31 = some (L.pl (.u64 0) :: L.pl (.u64 0) :: L.pl (.u64 0) :: L.pl (.u64 0) :: []) := by kernel_rfl
@[go_sem] theorem ag31 : isAggT Tryd.prog 31 = true := by kernel_rfl
@[go_sem] theorem sz33 : Tryd.prog.cellsOf 33 = 8 := by kernel_rfl
@[go_sem] theorem bo33 : Tryd.prog.bytesOf 33 = 64 := by kernel_rfl
attribute [go_sem] Tryd.underlying33
@[go_sem] theorem zc33 : zeroC Tryd.prog 33 = some (L.pl (.u64 0) :: L.pl (.u64 0) :: L.pl (.u64 0) :: L.pl (.u64 0) :: L.pl (.u64 0) :: L.pl (.u64 0) :: L.pl (.u64 0) :: L.pl (.u64 0) :: []) := by kernel_rfl
@[go_sem] theorem ag33 : isAggT Tryd.prog 33 = true := by kernel_rfl
@[go_sem] theorem sz34 : Tryd.prog.cellsOf 34 = 16 := by kernel_rfl
@[go_sem] theorem bo34 : Tryd.prog.bytesOf 34 = 128 := by kernel_rfl
attribute [go_sem] Tryd.underlying34
@[go_sem] theorem zc34 : zeroC Tryd.prog 34 = some (L.pl (.u64 0) :: L.pl (.u64 0) :: L.pl (.u64 0) :: L.pl (.u64 0) :: L.pl (.u64 0) :: L.pl (.u64 0) :: L.pl (.u64 0) :: L.pl (.u64 0) :: L.pl (.u64 0) :: L.pl (.u64 0) :: L.pl (.u64 0) :: L.pl (.u64 0) :: L.pl (.u64 0) :: L.pl (.u64 0) :: L.pl (.u64 0) :: L.pl (.u64 0) :: []) := by kernel_rfl
@[go_sem] theorem ag34 : isAggT Tryd.prog 34 = true := by kernel_rfl
@[go_sem] theorem sz35 : Tryd.prog.cellsOf 35 = 16 := by kernel_rfl
@[go_sem] theorem bo35 : Tryd.prog.bytesOf 35 = 128 := by kernel_rfl
attribute [go_sem] Tryd.underlying35
@[go_sem] theorem zc35 : zeroC Tryd.prog 35 = some (L.pl (.u64 0) :: L.pl (.u64 0) :: L.pl (.u64 0) :: L.pl (.u64 0) :: L.pl (.u64 0) :: L.pl (.u64 0) :: L.pl (.u64 0) :: L.pl (.u64 0) :: L.pl (.u64 0) :: L.pl (.u64 0) :: L.pl (.u64 0) :: L.pl (.u64 0) :: L.pl (.u64 0) :: L.pl (.u64 0) :: L.pl (.u64 0) :: L.pl (.u64 0) :: []) := by kernel_rfl
@[go_sem] theorem ag35 : isAggT Tryd.prog 35 = true := by kernel_rfl
@[go_sem] theorem sz38 : Tryd.prog.cellsOf 38 = 1 := by kernel_rfl
@[go_sem] theorem bo38 : Tryd.prog.bytesOf 38 = 8 := by kernel_rfl
attribute [go_sem] Tryd.underlying38
@[go_sem] theorem zc38 : zeroC Tryd.prog 38 = some (L.pl (.i 0) :: []) := by kernel_rfl
@[go_sem] theorem sz44 : Tryd.prog.cellsOf 44 = 16 := by kernel_rfl
@[go_sem] theorem bo44 : Tryd.prog.bytesOf 44 = 128 := by kernel_rfl
attribute [go_sem] Tryd.underlying44
@[go_sem] theorem zc44 : zeroC Tryd.prog 44 = some (L.pl (.u64 0) :: L.pl (.u64 0) :: L.pl (.u64 0) :: L.pl (.u64 0) :: L.pl (.u64 0) :: L.pl (.u64 0) :: L.pl (.u64 0) :: L.pl (.u64 0) :: L.pl (.u64 0) :: L.pl (.u64 0) :: L.pl (.u64 0) :: L.pl (.u64 0) :: L.pl (.u64 0) :: L.pl (.u64 0) :: L.pl (.u64 0) :: L.pl (.u64 0) :: []) := by kernel_rfl
@[go_sem] theorem ag44 : isAggT Tryd.prog 44 = true := by kernel_rfl
@[go_sem] theorem sz45 : Tryd.prog.cellsOf 45 = 16 := by kernel_rfl
@[go_sem] theorem bo45 : Tryd.prog.bytesOf 45 = 128 := by kernel_rfl
attribute [go_sem] Tryd.underlying45
@[go_sem] theorem zc45 : zeroC Tryd.prog 45 = some (L.pl (.u64 0) :: L.pl (.u64 0) :: L.pl (.u64 0) :: L.pl (.u64 0) :: L.pl (.u64 0) :: L.pl (.u64 0) :: L.pl (.u64 0) :: L.pl (.u64 0) :: L.pl (.u64 0) :: L.pl (.u64 0) :: L.pl (.u64 0) :: L.pl (.u64 0) :: L.pl (.u64 0) :: L.pl (.u64 0) :: L.pl (.u64 0) :: L.pl (.u64 0) :: []) := by kernel_rfl
@[go_sem] theorem ag45 : isAggT Tryd.prog 45 = true := by kernel_rfl
@[go_sem] theorem sz46 : Tryd.prog.cellsOf 46 = 32 := by kernel_rfl
@[go_sem] theorem bo46 : Tryd.prog.bytesOf 46 = 256 := by kernel_rfl
attribute [go_sem] Tryd.underlying46
@[go_sem] theorem zc46 : zeroC Tryd.prog 46 = some (L.pl (.u64 0) :: L.pl (.u64 0) :: L.pl (.u64 0) :: L.pl (.u64 0) :: L.pl (.u64 0) :: L.pl (.u64 0) :: L.pl (.u64 0) :: L.pl (.u64 0) :: L.pl (.u64 0) :: L.pl (.u64 0) :: L.pl (.u64 0) :: L.pl (.u64 0) :: L.pl (.u64 0) :: L.pl (.u64 0) :: L.pl (.u64 0) :: L.pl (.u64 0) :: L.pl (.u64 0) :: L.pl (.u64 0) :: L.pl (.u64 0) :: L.pl (.u64 0) :: L.pl (.u64 0) :: L.pl (.u64 0) :: L.pl (.u64 0) :: L.pl (.u64 0) :: L.pl (.u64 0) :: L.pl (.u64 0) :: L.pl (.u64 0) :: L.pl (.u64 0) :: L.pl (.u64 0) :: L.pl (.u64 0) :: L.pl (.u64 0) :: L.pl (.u64 0) :: []) := by kernel_rfl
@[go_sem] theorem ag46 : isAggT Tryd.prog 46 = true := by kernel_rfl
@[go_sem] theorem sz47 : Tryd.prog.cellsOf 47 = 32 := by kernel_rfl
@[go_sem] theorem bo47 : Tryd.prog.bytesOf 47 = 256 := by kernel_rfl
attribute [go_sem] Tryd.underlying47
@[go_sem] theorem zc47 : zeroC Tryd.prog 47 = some (L.pl (.u64 0) :: L.pl (.u64 0) :: L.pl (.u64 0) :: L.pl (.u64 0) :: L.pl (.u64 0) :: L.pl (.u64 0) :: L.pl (.u64 0) :: L.pl (.u64 0) :: L.pl (.u64 0) :: L.pl (.u64 0) :: L.pl (.u64 0) :: L.pl (.u64 0) :: L.pl (.u64 0) :: L.pl (.u64 0) :: L.pl (.u64 0) :: L.pl (.u64 0) :: L.pl (.u64 0) :: L.pl (.u64 0) :: L.pl (.u64 0) :: L.pl (.u64 0) :: L.pl (.u64 0) :: L.pl (.u64 0) :: L.pl (.u64 0) :: L.pl (.u64 0) :: L.pl (.u64 0) :: L.pl (.u64 0) :: L.pl (.u64 0) :: L.pl (.u64 0) :: L.pl (.u64 0) :: L.pl (.u64 0) :: L.pl (.u64 0) :: L.pl (.u64 0) :: []) := by kernel_rfl
@[go_sem] theorem ag47 : isAggT Tryd.prog 47 = true := by kernel_rfl
@[go_sem] theorem sz59 : Tryd.prog.cellsOf 59 = 32 := by kernel_rfl
@[go_sem] theorem bo59 : Tryd.prog.bytesOf 59 = 256 := by kernel_rfl
attribute [go_sem] Tryd.underlying59
@[go_sem] theorem zc59 : zeroC Tryd.prog 59 = some (u64C (List.replicate 32 0)) := by kernel_rfl
@[go_sem] theorem ag59 : isAggT Tryd.prog 59 = true := by kernel_rfl
@[go_sem] theorem sz62 : Tryd.prog.cellsOf 62 = 8 := by kernel_rfl
@[go_sem] theorem bo62 : Tryd.prog.bytesOf 62 = 64 := by kernel_rfl
attribute [go_sem] Tryd.underlying62
@[go_sem] theorem zc62 : zeroC Tryd.prog 62 = some (L.pl (.u64 0) :: L.pl (.u64 0) :: L.pl (.u64 0) :: L.pl (.u64 0) :: L.pl (.u64 0) :: L.pl (.u64 0) :: L.pl (.u64 0) :: L.pl (.u64 0) :: []) := by kernel_rfl
@[go_sem] theorem ag62 : isAggT Tryd.prog 62 = true := by kernel_rfl
@[go_sem] theorem sz69 : Tryd.prog.cellsOf 69 = 1 := by kernel_rfl
@[go_sem] theorem bo69 : Tryd.prog.bytesOf 69 = 8 := by kernel_rfl
attribute [go_sem] Tryd.underlying69
@[go_sem] theorem zc69 : zeroC Tryd.prog 69 = some (L.pl (.u64 0) :: []) := by kernel_rfl

end Go.Sy

