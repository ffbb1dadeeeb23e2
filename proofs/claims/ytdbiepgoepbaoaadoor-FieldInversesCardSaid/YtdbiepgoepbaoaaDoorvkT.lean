/- Facts on the types of the program. -/
import Derived.Test.YtdbiepgoepbaoaaDoorProg
import Derived.Test.YtdbiepgoepbaoaaDoorvE3
import Derived.KernelRfl
set_option linter.unusedVariables false
set_option linter.unusedSimpArgs false
namespace Go.Sy
open Go.Proofs
attribute [local irreducible] atCall HT runOps runD onC onE onO onG goV goA goS onSt onGuard
theorem mixed : Tryd.prog.follows .mixedOrders = true := by kernel_rfl
@[go_sem] theorem sz3 : Tryd.prog.cellsOf 3 = 1 := by kernel_rfl
@[go_sem] theorem bo3 : Tryd.prog.bytesOf 3 = 8 := by kernel_rfl
attribute [go_sem] Tryd.underlying3
@[go_sem] theorem zc3 : zeroC Tryd.prog 3 = some (L.pl (.i 0) :: []) := by kernel_rfl
@[go_sem] theorem sz4 : Tryd.prog.cellsOf 4 = 1 := by kernel_rfl
@[go_sem] theorem bo4 : Tryd.prog.bytesOf 4 = 1 := by kernel_rfl
attribute [go_sem] Tryd.underlying4
@[go_sem] theorem zc4 : zeroC Tryd.prog 4 = some (L.pl (.b false) :: []) := by kernel_rfl
@[go_sem] theorem sz5 : Tryd.prog.cellsOf 5 = 1 := by kernel_rfl
@[go_sem] theorem bo5 : Tryd.prog.bytesOf 5 = 1 := by kernel_rfl
attribute [go_sem] Tryd.underlying5
@[go_sem] theorem zc5 : zeroC Tryd.prog 5 = some (L.pl (.u8 0) :: []) := by kernel_rfl
@[go_sem] theorem sz22 : Tryd.prog.cellsOf 22 = 1 := by kernel_rfl
@[go_sem] theorem bo22 : Tryd.prog.bytesOf 22 = 8 := by kernel_rfl
attribute [go_sem] Tryd.underlying22
@[go_sem] theorem zc22 : zeroC Tryd.prog 22 = some (L.pl (.u64 0) :: []) := by kernel_rfl
@[go_sem] theorem sz23 : Tryd.prog.cellsOf 23 = 4 := by kernel_rfl
@[go_sem] theorem bo23 : Tryd.prog.bytesOf 23 = 32 := by kernel_rfl
attribute [go_sem] Tryd.underlying23
@[go_sem] theorem zc23 : zeroC Tryd.prog 23 = some (L.pl (.u64 0) :: L.pl (.u64 0) :: L.pl (.u64 0) :: L.pl (.u64 0) :: []) := by kernel_rfl
@[go_sem] theorem ag23 : isAggT Tryd.prog 23 = true := by kernel_rfl
@[go_sem] theorem sz24 : Tryd.prog.cellsOf 24 = 4 := by kernel_rfl
@[go_sem] theorem bo24 : Tryd.prog.bytesOf 24 = 32 := by kernel_rfl
attribute [go_sem] Tryd.underlying24
@[go_sem] theorem zc24 : zeroC Tryd.prog 24 = some (L.pl (.u64 0) :: L.pl (.u64 0) :: L.pl (.u64 0) :: L.pl (.u64 0) :: []) := by kernel_rfl
@[go_sem] theorem ag24 : isAggT Tryd.prog 24 = true := by kernel_rfl
@[go_sem] theorem ae24 {xs ys : List L} (hx : xs.map kindL = ((Kd.int .u64 :: Kd.int .u64 :: Kd.int .u64 :: Kd.int .u64 :: [] : List Kd)).map some) (hy : ys.map kindL = ((Kd.int .u64 :: Kd.int .u64 :: Kd.int .u64 :: Kd.int .u64 :: [] : List Kd)).map some) : aggEq Tryd.prog 24 xs ys = some (eqC xs ys) := aggEq_of (by kernel_rfl) (by kernel_rfl) hx hy
@[go_sem] theorem sz25 : Tryd.prog.cellsOf 25 = 32 := by kernel_rfl
@[go_sem] theorem bo25 : Tryd.prog.bytesOf 25 = 32 := by kernel_rfl
attribute [go_sem] Tryd.underlying25
@[go_sem] theorem zc25 : zeroC Tryd.prog 25 = some (bytesC (List.replicate 32 0)) := by kernel_rfl
@[go_sem] theorem ag25 : isAggT Tryd.prog 25 = true := by kernel_rfl
@[go_sem] theorem ae25 {xs ys : List L} (hx : xs.map kindL = ((List.replicate 32 (Kd.int .u8) : List Kd)).map some) (hy : ys.map kindL = ((List.replicate 32 (Kd.int .u8) : List Kd)).map some) : aggEq Tryd.prog 25 xs ys = some (eqC xs ys) := aggEq_of (by kernel_rfl) (by kernel_rfl) hx hy
@[go_sem] theorem sz26 : Tryd.prog.cellsOf 26 = 1 := by kernel_rfl
@[go_sem] theorem bo26 : Tryd.prog.bytesOf 26 = 8 := by kernel_rfl
attribute [go_sem] Tryd.underlying26
@[go_sem] theorem zc26 : zeroC Tryd.prog 26 = some (L.pl (.i 0) :: []) := by kernel_rfl
@[go_sem] theorem sz38 : Tryd.prog.cellsOf 38 = 16 := by kernel_rfl
@[go_sem] theorem bo38 : Tryd.prog.bytesOf 38 = 128 := by kernel_rfl
attribute [go_sem] Tryd.underlying38
@[go_sem] theorem zc38 : zeroC Tryd.prog 38 = some (L.pl (.u64 0) :: L.pl (.u64 0) :: L.pl (.u64 0) :: L.pl (.u64 0) :: L.pl (.u64 0) :: L.pl (.u64 0) :: L.pl (.u64 0) :: L.pl (.u64 0) :: L.pl (.u64 0) :: L.pl (.u64 0) :: L.pl (.u64 0) :: L.pl (.u64 0) :: L.pl (.u64 0) :: L.pl (.u64 0) :: L.pl (.u64 0) :: L.pl (.u64 0) :: []) := by kernel_rfl
@[go_sem] theorem ag38 : isAggT Tryd.prog 38 = true := by kernel_rfl
@[go_sem] theorem sz39 : Tryd.prog.cellsOf 39 = 16 := by kernel_rfl
@[go_sem] theorem bo39 : Tryd.prog.bytesOf 39 = 128 := by kernel_rfl
attribute [go_sem] Tryd.underlying39
@[go_sem] theorem zc39 : zeroC Tryd.prog 39 = some (L.pl (.u64 0) :: L.pl (.u64 0) :: L.pl (.u64 0) :: L.pl (.u64 0) :: L.pl (.u64 0) :: L.pl (.u64 0) :: L.pl (.u64 0) :: L.pl (.u64 0) :: L.pl (.u64 0) :: L.pl (.u64 0) :: L.pl (.u64 0) :: L.pl (.u64 0) :: L.pl (.u64 0) :: L.pl (.u64 0) :: L.pl (.u64 0) :: L.pl (.u64 0) :: []) := by kernel_rfl
@[go_sem] theorem ag39 : isAggT Tryd.prog 39 = true := by kernel_rfl
@[go_sem] theorem sz52 : Tryd.prog.cellsOf 52 = 32 := by kernel_rfl
@[go_sem] theorem bo52 : Tryd.prog.bytesOf 52 = 256 := by kernel_rfl
attribute [go_sem] Tryd.underlying52
@[go_sem] theorem zc52 : zeroC Tryd.prog 52 = some (u64C (List.replicate 32 0)) := by kernel_rfl
@[go_sem] theorem ag52 : isAggT Tryd.prog 52 = true := by kernel_rfl
@[go_sem] theorem sz53 : Tryd.prog.cellsOf 53 = 8 := by kernel_rfl
@[go_sem] theorem bo53 : Tryd.prog.bytesOf 53 = 64 := by kernel_rfl
attribute [go_sem] Tryd.underlying53
@[go_sem] theorem zc53 : zeroC Tryd.prog 53 = some (L.pl (.u64 0) :: L.pl (.u64 0) :: L.pl (.u64 0) :: L.pl (.u64 0) :: L.pl (.u64 0) :: L.pl (.u64 0) :: L.pl (.u64 0) :: L.pl (.u64 0) :: []) := by kernel_rfl
@[go_sem] theorem ag53 : isAggT Tryd.prog 53 = true := by kernel_rfl
@[go_sem] theorem sz55 : Tryd.prog.cellsOf 55 = 1 := by kernel_rfl
@[go_sem] theorem bo55 : Tryd.prog.bytesOf 55 = 8 := by kernel_rfl
attribute [go_sem] Tryd.underlying55
@[go_sem] theorem zc55 : zeroC Tryd.prog 55 = some (L.pl (.u64 0) :: []) := by kernel_rfl

end Go.Sy

