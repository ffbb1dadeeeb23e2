/- Facts on the types of the program. -/
import Derived.Test.YtojdgfocpmlpfaaDoorProg
import Derived.Test.YtojdgfocpmlpfaaDoorvE3
import Derived.KernelRfl
set_option linter.unusedVariables false
set_option linter.unusedSimpArgs false
namespace Go.Sy
open Go.Proofs
attribute [local irreducible] atCall HT runOps runD onC onE onO onG goV goA goS onSt onGuard
theorem mixed : Tryd.prog.follows .mixedOrders = true := by kernel_rfl
@[go_sem] theorem sz3 : Tryd.prog.cellsOf 3 = 1 := by kernel_rfl
@[go_sem] theorem bo3 : Tryd.prog.bytesOf 3 = 8 := by kernel_rfl
attribute [go_sem] Tryd.underlying3
@[go_sem] theorem zc3 : zeroC Tryd.prog 3 = some (L.pl (.i 0) :: []) := by kernel_rfl
@[go_sem] theorem sz4 : Tryd.prog.cellsOf 4 = 1 := by kernel_rfl
@[go_sem] theorem bo4 : Tryd.prog.bytesOf 4 = 1 := by kernel_rfl
attribute [go_sem] Tryd.underlying4
@[go_sem] theorem zc4 : zeroC Tryd.prog 4 = some (L.pl (.b false) :: []) := by kernel_rfl
@[go_sem] theorem sz5 : Tryd.prog.cellsOf 5 = 1 := by kernel_rfl
@[go_sem] theorem bo5 : Tryd.prog.bytesOf 5 = 1 := by kernel_rfl
attribute [go_sem] Tryd.underlying5
@[go_sem] theorem zc5 : zeroC Tryd.prog 5 = some (L.pl (.u8 0) :: []) := by kernel_rfl
@[go_sem] theorem sz9 : Tryd.prog.cellsOf 9 = 1 := by kernel_rfl
@[go_sem] theorem bo9 : Tryd.prog.bytesOf 9 = 16 := by kernel_rfl
attribute [go_sem] Tryd.underlying9
@[go_sem] theorem zc9 : zeroC Tryd.prog 9 = some (L.pl (.str []) :: []) := by kernel_rfl
@[go_sem] theorem sz22 : Tryd.prog.cellsOf 22 = 1 := by kernel_rfl
@[go_sem] theorem bo22 : Tryd.prog.bytesOf 22 = 4 := by kernel_rfl
attribute [go_sem] Tryd.underlying22
@[go_sem] theorem zc22 : zeroC Tryd.prog 22 = some (L.pl (.u32 0) :: []) := by kernel_rfl
@[go_sem] theorem sz23 : Tryd.prog.cellsOf 23 = 8 := by kernel_rfl
@[go_sem] theorem bo23 : Tryd.prog.bytesOf 23 = 32 := by kernel_rfl
attribute [go_sem] Tryd.underlying23
@[go_sem] theorem zc23 : zeroC Tryd.prog 23 = some (L.pl (.u32 0) :: L.pl (.u32 0) :: L.pl (.u32 0) :: L.pl (.u32 0) :: L.pl (.u32 0) :: L.pl (.u32 0) :: L.pl (.u32 0) :: L.pl (.u32 0) :: []) := by kernel_rfl
@[go_sem] theorem ag23 : isAggT Tryd.prog 23 = true := by kernel_rfl
@[go_sem] theorem sz24 : Tryd.prog.cellsOf 24 = 64 := by kernel_rfl
@[go_sem] theorem bo24 : Tryd.prog.bytesOf 24 = 64 := by kernel_rfl
attribute [go_sem] Tryd.underlying24
@[go_sem] theorem zc24 : zeroC Tryd.prog 24 = some (bytesC (List.replicate 64 0)) := by kernel_rfl
@[go_sem] theorem ag24 : isAggT Tryd.prog 24 = true := by kernel_rfl
@[go_sem] theorem sz25 : Tryd.prog.cellsOf 25 = 74 := by kernel_rfl
@[go_sem] theorem bo25 : Tryd.prog.bytesOf 25 = 112 := by kernel_rfl
attribute [go_sem] Tryd.underlying25
@[go_sem] theorem zc25 : zeroC Tryd.prog 25 = some (L.pl (.u32 0) :: L.pl (.u32 0) :: L.pl (.u32 0) :: L.pl (.u32 0) :: L.pl (.u32 0) :: L.pl (.u32 0) :: L.pl (.u32 0) :: L.pl (.u32 0) :: bytesC (List.replicate 64 0) ++ (L.pl (.i 0) :: L.pl (.i 0) :: [])) := by kernel_rfl
@[go_sem] theorem ag25 : isAggT Tryd.prog 25 = true := by kernel_rfl
@[go_sem] theorem sz26 : Tryd.prog.cellsOf 26 = 74 := by kernel_rfl
@[go_sem] theorem bo26 : Tryd.prog.bytesOf 26 = 112 := by kernel_rfl
attribute [go_sem] Tryd.underlying26
@[go_sem] theorem zc26 : zeroC Tryd.prog 26 = some (L.pl (.u32 0) :: L.pl (.u32 0) :: L.pl (.u32 0) :: L.pl (.u32 0) :: L.pl (.u32 0) :: L.pl (.u32 0) :: L.pl (.u32 0) :: L.pl (.u32 0) :: bytesC (List.replicate 64 0) ++ (L.pl (.i 0) :: L.pl (.i 0) :: [])) := by kernel_rfl
@[go_sem] theorem ag26 : isAggT Tryd.prog 26 = true := by kernel_rfl
@[go_sem] theorem sz27 : Tryd.prog.cellsOf 27 = 32 := by kernel_rfl
@[go_sem] theorem bo27 : Tryd.prog.bytesOf 27 = 32 := by kernel_rfl
attribute [go_sem] Tryd.underlying27
@[go_sem] theorem zc27 : zeroC Tryd.prog 27 = some (bytesC (List.replicate 32 0)) := by kernel_rfl
@[go_sem] theorem ag27 : isAggT Tryd.prog 27 = true := by kernel_rfl
@[go_sem] theorem sz28 : Tryd.prog.cellsOf 28 = 32 := by kernel_rfl
@[go_sem] theorem bo28 : Tryd.prog.bytesOf 28 = 32 := by kernel_rfl
attribute [go_sem] Tryd.underlying28
@[go_sem] theorem zc28 : zeroC Tryd.prog 28 = some (bytesC (List.replicate 32 0)) := by kernel_rfl
@[go_sem] theorem ag28 : isAggT Tryd.prog 28 = true := by kernel_rfl
@[go_sem] theorem ae28 {xs ys : List L} (hx : xs.map kindL = ((List.replicate 32 (Kd.int .u8) : List Kd)).map some) (hy : ys.map kindL = ((List.replicate 32 (Kd.int .u8) : List Kd)).map some) : aggEq Tryd.prog 28 xs ys = some (eqC xs ys) := aggEq_of (by kernel_rfl) (by kernel_rfl) hx hy
@[go_sem] theorem sz29 : Tryd.prog.cellsOf 29 = 1 := by kernel_rfl
@[go_sem] theorem bo29 : Tryd.prog.bytesOf 29 = 8 := by kernel_rfl
attribute [go_sem] Tryd.underlying29
@[go_sem] theorem zc29 : zeroC Tryd.prog 29 = some (L.pl (.i 0) :: []) := by kernel_rfl
@[go_sem] theorem sz33 : Tryd.prog.cellsOf 33 = 1 := by kernel_rfl
@[go_sem] theorem bo33 : Tryd.prog.bytesOf 33 = 24 := by kernel_rfl
attribute [go_sem] Tryd.underlying33
@[go_sem] theorem zc33 : zeroC Tryd.prog 33 = some (L.pl (.R true 1 []) :: []) := by kernel_rfl
@[go_sem] theorem sz44 : Tryd.prog.cellsOf 44 = 96 := by kernel_rfl
@[go_sem] theorem bo44 : Tryd.prog.bytesOf 44 = 96 := by kernel_rfl
attribute [go_sem] Tryd.underlying44
@[go_sem] theorem zc44 : zeroC Tryd.prog 44 = some (bytesC (List.replicate 32 0) ++ (bytesC (List.replicate 32 0) ++ (bytesC (List.replicate 32 0)))) := by kernel_rfl
@[go_sem] theorem ag44 : isAggT Tryd.prog 44 = true := by kernel_rfl
@[go_sem] theorem ae44 {xs ys : List L} (hx : xs.map kindL = ((List.replicate 32 (Kd.int .u8) ++ (List.replicate 32 (Kd.int .u8) ++ (List.replicate 32 (Kd.int .u8))) : List Kd)).map some) (hy : ys.map kindL = ((List.replicate 32 (Kd.int .u8) ++ (List.replicate 32 (Kd.int .u8) ++ (List.replicate 32 (Kd.int .u8))) : List Kd)).map some) : aggEq Tryd.prog 44 xs ys = some (eqC xs ys) := aggEq_of (by kernel_rfl) (by kernel_rfl) hx hy
@[go_sem] theorem sz46 : Tryd.prog.cellsOf 46 = 64 := by kernel_rfl
@[go_sem] theorem bo46 : Tryd.prog.bytesOf 46 = 64 := by kernel_rfl
attribute [go_sem] Tryd.underlying46
@[go_sem] theorem zc46 : zeroC Tryd.prog 46 = some (bytesC (List.replicate 32 0) ++ (bytesC (List.replicate 32 0))) := by kernel_rfl
@[go_sem] theorem ag46 : isAggT Tryd.prog 46 = true := by kernel_rfl
@[go_sem] theorem sz50 : Tryd.prog.cellsOf 50 = 1 := by kernel_rfl
@[go_sem] theorem bo50 : Tryd.prog.bytesOf 50 = 8 := by kernel_rfl
attribute [go_sem] Tryd.underlying50
@[go_sem] theorem zc50 : zeroC Tryd.prog 50 = some (L.pl (.u64 0) :: []) := by kernel_rfl
@[go_sem] theorem sz51 : Tryd.prog.cellsOf 51 = 34 := by kernel_rfl
@[go_sem] theorem bo51 : Tryd.prog.bytesOf 51 = 48 := by kernel_rfl
attribute [go_sem] Tryd.underlying51
@[go_sem] theorem zc51 : zeroC Tryd.prog 51 = some (L.pl (.b false) :: bytesC (List.replicate 32 0) ++ (L.pl (.u64 0) :: [])) := by kernel_rfl
@[go_sem] theorem ag51 : isAggT Tryd.prog 51 = true := by kernel_rfl
@[go_sem] theorem sz52 : Tryd.prog.cellsOf 52 = 34 := by kernel_rfl
@[go_sem] theorem bo52 : Tryd.prog.bytesOf 52 = 48 := by kernel_rfl
attribute [go_sem] Tryd.underlying52
@[go_sem] theorem zc52 : zeroC Tryd.prog 52 = some (L.pl (.b false) :: bytesC (List.replicate 32 0) ++ (L.pl (.u64 0) :: [])) := by kernel_rfl
@[go_sem] theorem ag52 : isAggT Tryd.prog 52 = true := by kernel_rfl
@[go_sem] theorem sz53 : Tryd.prog.cellsOf 53 = 98 := by kernel_rfl
@[go_sem] theorem bo53 : Tryd.prog.bytesOf 53 = 112 := by kernel_rfl
attribute [go_sem] Tryd.underlying53
@[go_sem] theorem zc53 : zeroC Tryd.prog 53 = some (L.pl (.b false) :: bytesC (List.replicate 32 0) ++ (L.pl (.u64 0) :: bytesC (List.replicate 32 0) ++ (bytesC (List.replicate 32 0)))) := by kernel_rfl
@[go_sem] theorem ag53 : isAggT Tryd.prog 53 = true := by kernel_rfl
@[go_sem] theorem sz54 : Tryd.prog.cellsOf 54 = 98 := by kernel_rfl
@[go_sem] theorem bo54 : Tryd.prog.bytesOf 54 = 112 := by kernel_rfl
attribute [go_sem] Tryd.underlying54
@[go_sem] theorem zc54 : zeroC Tryd.prog 54 = some (L.pl (.b false) :: bytesC (List.replicate 32 0) ++ (L.pl (.u64 0) :: bytesC (List.replicate 32 0) ++ (bytesC (List.replicate 32 0)))) := by kernel_rfl
@[go_sem] theorem ag54 : isAggT Tryd.prog 54 = true := by kernel_rfl
@[go_sem] theorem ae54 {xs ys : List L} (hx : xs.map kindL = ((Kd.b :: List.replicate 32 (Kd.int .u8) ++ (Kd.int .u64 :: List.replicate 32 (Kd.int .u8) ++ (List.replicate 32 (Kd.int .u8))) : List Kd)).map some) (hy : ys.map kindL = ((Kd.b :: List.replicate 32 (Kd.int .u8) ++ (Kd.int .u64 :: List.replicate 32 (Kd.int .u8) ++ (List.replicate 32 (Kd.int .u8))) : List Kd)).map some) : aggEq Tryd.prog 54 xs ys = some (eqC xs ys) := aggEq_of (by kernel_rfl) (by kernel_rfl) hx hy
@[go_sem] theorem sz56 : Tryd.prog.cellsOf 56 = 68 := by kernel_rfl
@[go_sem] theorem bo56 : Tryd.prog.bytesOf 56 = 96 := by kernel_rfl
attribute [go_sem] Tryd.underlying56
@[go_sem] theorem zc56 : zeroC Tryd.prog 56 = some (L.pl (.b false) :: bytesC (List.replicate 32 0) ++ (L.pl (.u64 0) :: L.pl (.b false) :: bytesC (List.replicate 32 0) ++ (L.pl (.u64 0) :: []))) := by kernel_rfl
@[go_sem] theorem ag56 : isAggT Tryd.prog 56 = true := by kernel_rfl
@[go_sem] theorem ae56 {xs ys : List L} (hx : xs.map kindL = ((Kd.b :: List.replicate 32 (Kd.int .u8) ++ (Kd.int .u64 :: Kd.b :: List.replicate 32 (Kd.int .u8) ++ (Kd.int .u64 :: [])) : List Kd)).map some) (hy : ys.map kindL = ((Kd.b :: List.replicate 32 (Kd.int .u8) ++ (Kd.int .u64 :: Kd.b :: List.replicate 32 (Kd.int .u8) ++ (Kd.int .u64 :: [])) : List Kd)).map some) : aggEq Tryd.prog 56 xs ys = some (eqC xs ys) := aggEq_of (by kernel_rfl) (by kernel_rfl) hx hy
@[go_sem] theorem sz70 : Tryd.prog.cellsOf 70 = 16 := by kernel_rfl
@[go_sem] theorem bo70 : Tryd.prog.bytesOf 70 = 64 := by kernel_rfl
attribute [go_sem] Tryd.underlying70
@[go_sem] theorem zc70 : zeroC Tryd.prog 70 = some (L.pl (.u32 0) :: L.pl (.u32 0) :: L.pl (.u32 0) :: L.pl (.u32 0) :: L.pl (.u32 0) :: L.pl (.u32 0) :: L.pl (.u32 0) :: L.pl (.u32 0) :: L.pl (.u32 0) :: L.pl (.u32 0) :: L.pl (.u32 0) :: L.pl (.u32 0) :: L.pl (.u32 0) :: L.pl (.u32 0) :: L.pl (.u32 0) :: L.pl (.u32 0) :: []) := by kernel_rfl
@[go_sem] theorem ag70 : isAggT Tryd.prog 70 = true := by kernel_rfl
@[go_sem] theorem sz71 : Tryd.prog.cellsOf 71 = 1 := by kernel_rfl
@[go_sem] theorem bo71 : Tryd.prog.bytesOf 71 = 8 := by kernel_rfl
attribute [go_sem] Tryd.underlying71
@[go_sem] theorem zc71 : zeroC Tryd.prog 71 = some (L.pl (.u64 0) :: []) := by kernel_rfl
@[go_sem] theorem sz74 : Tryd.prog.cellsOf 74 = 16 := by kernel_rfl
@[go_sem] theorem bo74 : Tryd.prog.bytesOf 74 = 128 := by kernel_rfl
attribute [go_sem] Tryd.underlying74
@[go_sem] theorem zc74 : zeroC Tryd.prog 74 = some (L.pl (.i 0) :: L.pl (.i 0) :: L.pl (.i 0) :: L.pl (.i 0) :: L.pl (.i 0) :: L.pl (.i 0) :: L.pl (.i 0) :: L.pl (.i 0) :: L.pl (.i 0) :: L.pl (.i 0) :: L.pl (.i 0) :: L.pl (.i 0) :: L.pl (.i 0) :: L.pl (.i 0) :: L.pl (.i 0) :: L.pl (.i 0) :: []) := by kernel_rfl
@[go_sem] theorem ag74 : isAggT Tryd.prog 74 = true := by kernel_rfl
@[go_sem] theorem sz75 : Tryd.prog.cellsOf 75 = 160 := by kernel_rfl
@[go_sem] theorem bo75 : Tryd.prog.bytesOf 75 = 1280 := by kernel_rfl
attribute [go_sem] Tryd.underlying75
@[go_sem] theorem zc75 : zeroC Tryd.prog 75 = some (L.pl (.i 0) :: L.pl (.i 0) :: L.pl (.i 0) :: L.pl (.i 0) :: L.pl (.i 0) :: L.pl (.i 0) :: L.pl (.i 0) :: L.pl (.i 0) :: L.pl (.i 0) :: L.pl (.i 0) :: L.pl (.i 0) :: L.pl (.i 0) :: L.pl (.i 0) :: L.pl (.i 0) :: L.pl (.i 0) :: L.pl (.i 0) :: L.pl (.i 0) :: L.pl (.i 0) :: L.pl (.i 0) :: L.pl (.i 0) :: L.pl (.i 0) :: L.pl (.i 0) :: L.pl (.i 0) :: L.pl (.i 0) :: L.pl (.i 0) :: L.pl (.i 0) :: L.pl (.i 0) :: L.pl (.i 0) :: L.pl (.i 0) :: L.pl (.i 0) :: L.pl (.i 0) :: L.pl (.i 0) :: L.pl (.i 0) :: L.pl (.i 0) :: L.pl (.i 0) :: L.pl (.i 0) :: L.pl (.i 0) :: L.pl (.i 0) :: L.pl (.i 0) :: L.pl (.i 0) :: L.pl (.i 0) :: L.pl (.i 0) :: L.pl (.i 0) :: L.pl (.i 0) :: L.pl (.i 0) :: L.pl (.i 0) :: L.pl (.i 0) :: L.pl (.i 0) :: L.pl (.i 0) :: L.pl (.i 0) :: L.pl (.i 0) :: L.pl (.i 0) :: L.pl (.i 0) :: L.pl (.i 0) :: L.pl (.i 0) :: L.pl (.i 0) :: L.pl (.i 0) :: L.pl (.i 0) :: L.pl (.i 0) :: L.pl (.i 0) :: L.pl (.i 0) :: L.pl (.i 0) :: L.pl (.i 0) :: L.pl (.i 0) :: L.pl (.i 0) :: L.pl (.i 0) :: L.pl (.i 0) :: L.pl (.i 0) :: L.pl (.i 0) :: L.pl (.i 0) :: L.pl (.i 0) :: L.pl (.i 0) :: L.pl (.i 0) :: L.pl (.i 0) :: L.pl (.i 0) :: L.pl (.i 0) :: L.pl (.i 0) :: L.pl (.i 0) :: L.pl (.i 0) :: L.pl (.i 0) :: L.pl (.i 0) :: L.pl (.i 0) :: L.pl (.i 0) :: L.pl (.i 0) :: L.pl (.i 0) :: L.pl (.i 0) :: L.pl (.i 0) :: L.pl (.i 0) :: L.pl (.i 0) :: L.pl (.i 0) :: L.pl (.i 0) :: L.pl (.i 0) :: L.pl (.i 0) :: L.pl (.i 0) :: L.pl (.i 0) :: L.pl (.i 0) :: L.pl (.i 0) :: L.pl (.i 0) :: L.pl (.i 0) :: L.pl (.i 0) :: L.pl (.i 0) :: L.pl (.i 0) :: L.pl (.i 0) :: L.pl (.i 0) :: L.pl (.i 0) :: L.pl (.i 0) :: L.pl (.i 0) :: L.pl (.i 0) :: L.pl (.i 0) :: L.pl (.i 0) :: L.pl (.i 0) :: L.pl (.i 0) :: L.pl (.i 0) :: L.pl (.i 0) :: L.pl (.i 0) :: L.pl (.i 0) :: L.pl (.i 0) :: L.pl (.i 0) :: L.pl (.i 0) :: L.pl (.i 0) :: L.pl (.i 0) :: L.pl (.i 0) :: L.pl (.i 0) :: L.pl (.i 0) :: L.pl (.i 0) :: L.pl (.i 0) :: L.pl (.i 0) :: L.pl (.i 0) :: L.pl (.i 0) :: L.pl (.i 0) :: L.pl (.i 0) :: L.pl (.i 0) :: L.pl (.i 0) :: L.pl (.i 0) :: L.pl (.i 0) :: L.pl (.i 0) :: L.pl (.i 0) :: L.pl (.i 0) :: L.pl (.i 0) :: L.pl (.i 0) :: L.pl (.i 0) :: L.pl (.i 0) :: L.pl (.i 0) :: L.pl (.i 0) :: L.pl (.i 0) :: L.pl (.i 0) :: L.pl (.i 0) :: L.pl (.i 0) :: L.pl (.i 0) :: L.pl (.i 0) :: L.pl (.i 0) :: L.pl (.i 0) :: L.pl (.i 0) :: L.pl (.i 0) :: L.pl (.i 0) :: L.pl (.i 0) :: L.pl (.i 0) :: L.pl (.i 0) :: L.pl (.i 0) :: L.pl (.i 0) :: []) := by kernel_rfl
@[go_sem] theorem ag75 : isAggT Tryd.prog 75 = true := by kernel_rfl
@[go_sem] theorem sz76 : Tryd.prog.cellsOf 76 = 4 := by kernel_rfl
@[go_sem] theorem bo76 : Tryd.prog.bytesOf 76 = 16 := by kernel_rfl
attribute [go_sem] Tryd.underlying76
@[go_sem] theorem zc76 : zeroC Tryd.prog 76 = some (L.pl (.u32 0) :: L.pl (.u32 0) :: L.pl (.u32 0) :: L.pl (.u32 0) :: []) := by kernel_rfl
@[go_sem] theorem ag76 : isAggT Tryd.prog 76 = true := by kernel_rfl
@[go_sem] theorem sz77 : Tryd.prog.cellsOf 77 = 16 := by kernel_rfl
@[go_sem] theorem bo77 : Tryd.prog.bytesOf 77 = 64 := by kernel_rfl
attribute [go_sem] Tryd.underlying77
@[go_sem] theorem zc77 : zeroC Tryd.prog 77 = some (L.pl (.u32 0) :: L.pl (.u32 0) :: L.pl (.u32 0) :: L.pl (.u32 0) :: L.pl (.u32 0) :: L.pl (.u32 0) :: L.pl (.u32 0) :: L.pl (.u32 0) :: L.pl (.u32 0) :: L.pl (.u32 0) :: L.pl (.u32 0) :: L.pl (.u32 0) :: L.pl (.u32 0) :: L.pl (.u32 0) :: L.pl (.u32 0) :: L.pl (.u32 0) :: []) := by kernel_rfl
@[go_sem] theorem ag77 : isAggT Tryd.prog 77 = true := by kernel_rfl
@[go_sem] theorem sz82 : Tryd.prog.cellsOf 82 = 1 := by kernel_rfl
@[go_sem] theorem bo82 : Tryd.prog.bytesOf 82 = 24 := by kernel_rfl
attribute [go_sem] Tryd.underlying82
@[go_sem] theorem zc82 : zeroC Tryd.prog 82 = some (L.pl (.R true 1 []) :: []) := by kernel_rfl

@[go_sem] theorem sz73 : Tryd.prog.cellsOf 73 = 1 := by kernel_rfl
@[go_sem] theorem bo73 : Tryd.prog.bytesOf 73 = 8 := by kernel_rfl
attribute [go_sem] Tryd.underlying73
@[go_sem] theorem sz80 : Tryd.prog.cellsOf 80 = 1 := by kernel_rfl
@[go_sem] theorem bo80 : Tryd.prog.bytesOf 80 = 8 := by kernel_rfl
attribute [go_sem] Tryd.underlying80
end Go.Sy

