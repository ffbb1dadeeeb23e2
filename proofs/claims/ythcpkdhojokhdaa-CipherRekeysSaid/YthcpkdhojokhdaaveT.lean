/- Facts on the types of the program. -/
import Derived.Test.YthcpkdhojokhdaaProg
import Derived.Test.YthcpkdhojokhdaavE3
import Derived.KernelRfl
set_option linter.unusedVariables false
set_option linter.unusedSimpArgs false
namespace Go.Sy
open Go.Proofs
attribute [local irreducible] atCall HT runOps runD onC onE onO onG goV goA goS onSt onGuard
theorem mixed : Try.prog.follows .mixedOrders = true := by kernel_rfl
@[go_sem] theorem sz3 : Try.prog.cellsOf 3 = 1 := by kernel_rfl
@[go_sem] theorem bo3 : Try.prog.bytesOf 3 = 8 := by kernel_rfl
attribute [go_sem] Try.underlying3
@[go_sem] theorem zc3 : zeroC Try.prog 3 = some (L.pl (.i 0) :: []) := by kernel_rfl
@[go_sem] theorem sz4 : Try.prog.cellsOf 4 = 1 := by kernel_rfl
@[go_sem] theorem bo4 : Try.prog.bytesOf 4 = 1 := by kernel_rfl
attribute [go_sem] Try.underlying4
@[go_sem] theorem zc4 : zeroC Try.prog 4 = some (L.pl (.b false) :: []) := by kernel_rfl
@[go_sem] theorem sz5 : Try.prog.cellsOf 5 = 1 := by kernel_rfl
@[go_sem] theorem bo5 : Try.prog.bytesOf 5 = 1 := by kernel_rfl
attribute [go_sem] Try.underlying5
@[go_sem] theorem zc5 : zeroC Try.prog 5 = some (L.pl (.u8 0) :: []) := by kernel_rfl
@[go_sem] theorem sz9 : Try.prog.cellsOf 9 = 1 := by kernel_rfl
@[go_sem] theorem bo9 : Try.prog.bytesOf 9 = 16 := by kernel_rfl
attribute [go_sem] Try.underlying9
@[go_sem] theorem zc9 : zeroC Try.prog 9 = some (L.pl (.str []) :: []) := by kernel_rfl
@[go_sem] theorem sz22 : Try.prog.cellsOf 22 = 32 := by kernel_rfl
@[go_sem] theorem bo22 : Try.prog.bytesOf 22 = 32 := by kernel_rfl
attribute [go_sem] Try.underlying22
@[go_sem] theorem zc22 : zeroC Try.prog 22 = some (bytesC (List.replicate 32 0)) := by kernel_rfl
@[go_sem] theorem ag22 : isAggT Try.prog 22 = true := by kernel_rfl
@[go_sem] theorem sz23 : Try.prog.cellsOf 23 = 1 := by kernel_rfl
@[go_sem] theorem bo23 : Try.prog.bytesOf 23 = 8 := by kernel_rfl
attribute [go_sem] Try.underlying23
@[go_sem] theorem zc23 : zeroC Try.prog 23 = some (L.pl (.u64 0) :: []) := by kernel_rfl
@[go_sem] theorem sz24 : Try.prog.cellsOf 24 = 2 := by kernel_rfl
@[go_sem] theorem bo24 : Try.prog.bytesOf 24 = 16 := by kernel_rfl
attribute [go_sem] Try.underlying24
@[go_sem] theorem zc24 : zeroC Try.prog 24 = some (L.pl (.u64 0) :: L.pl (.u64 0) :: []) := by kernel_rfl
@[go_sem] theorem ag24 : isAggT Try.prog 24 = true := by kernel_rfl
@[go_sem] theorem ae24 {xs ys : List L} (hx : xs.map kindL = ((Kd.int .u64 :: Kd.int .u64 :: [] : List Kd)).map some) (hy : ys.map kindL = ((Kd.int .u64 :: Kd.int .u64 :: [] : List Kd)).map some) : aggEq Try.prog 24 xs ys = some (eqC xs ys) := aggEq_of (by kernel_rfl) (by kernel_rfl) hx hy
@[go_sem] theorem sz25 : Try.prog.cellsOf 25 = 3 := by kernel_rfl
@[go_sem] theorem bo25 : Try.prog.bytesOf 25 = 24 := by kernel_rfl
attribute [go_sem] Try.underlying25
@[go_sem] theorem zc25 : zeroC Try.prog 25 = some (L.pl (.u64 0) :: L.pl (.u64 0) :: L.pl (.u64 0) :: []) := by kernel_rfl
@[go_sem] theorem ag25 : isAggT Try.prog 25 = true := by kernel_rfl
@[go_sem] theorem ae25 {xs ys : List L} (hx : xs.map kindL = ((Kd.int .u64 :: Kd.int .u64 :: Kd.int .u64 :: [] : List Kd)).map some) (hy : ys.map kindL = ((Kd.int .u64 :: Kd.int .u64 :: Kd.int .u64 :: [] : List Kd)).map some) : aggEq Try.prog 25 xs ys = some (eqC xs ys) := aggEq_of (by kernel_rfl) (by kernel_rfl) hx hy
@[go_sem] theorem sz26 : Try.prog.cellsOf 26 = 16 := by kernel_rfl
@[go_sem] theorem bo26 : Try.prog.bytesOf 26 = 16 := by kernel_rfl
attribute [go_sem] Try.underlying26
@[go_sem] theorem zc26 : zeroC Try.prog 26 = some (bytesC (List.replicate 16 0)) := by kernel_rfl
@[go_sem] theorem ag26 : isAggT Try.prog 26 = true := by kernel_rfl
@[go_sem] theorem sz27 : Try.prog.cellsOf 27 = 24 := by kernel_rfl
@[go_sem] theorem bo27 : Try.prog.bytesOf 27 = 80 := by kernel_rfl
attribute [go_sem] Try.underlying27
@[go_sem] theorem zc27 : zeroC Try.prog 27 = some (L.pl (.u64 0) :: L.pl (.u64 0) :: L.pl (.u64 0) :: L.pl (.u64 0) :: L.pl (.u64 0) :: L.pl (.u64 0) :: L.pl (.u64 0) :: bytesC (List.replicate 16 0) ++ (L.pl (.i 0) :: [])) := by kernel_rfl
@[go_sem] theorem ag27 : isAggT Try.prog 27 = true := by kernel_rfl
@[go_sem] theorem sz28 : Try.prog.cellsOf 28 = 24 := by kernel_rfl
@[go_sem] theorem bo28 : Try.prog.bytesOf 28 = 80 := by kernel_rfl
attribute [go_sem] Try.underlying28
@[go_sem] theorem zc28 : zeroC Try.prog 28 = some (L.pl (.u64 0) :: L.pl (.u64 0) :: L.pl (.u64 0) :: L.pl (.u64 0) :: L.pl (.u64 0) :: L.pl (.u64 0) :: L.pl (.u64 0) :: bytesC (List.replicate 16 0) ++ (L.pl (.i 0) :: [])) := by kernel_rfl
@[go_sem] theorem ag28 : isAggT Try.prog 28 = true := by kernel_rfl
@[go_sem] theorem sz30 : Try.prog.cellsOf 30 = 1 := by kernel_rfl
@[go_sem] theorem bo30 : Try.prog.bytesOf 30 = 8 := by kernel_rfl
attribute [go_sem] Try.underlying30
@[go_sem] theorem zc30 : zeroC Try.prog 30 = some (L.pl (.i 0) :: []) := by kernel_rfl
@[go_sem] theorem sz33 : Try.prog.cellsOf 33 = 1 := by kernel_rfl
@[go_sem] theorem bo33 : Try.prog.bytesOf 33 = 24 := by kernel_rfl
attribute [go_sem] Try.underlying33
@[go_sem] theorem zc33 : zeroC Try.prog 33 = some (L.pl (.R true 1 []) :: []) := by kernel_rfl
@[go_sem] theorem sz43 : Try.prog.cellsOf 43 = 1 := by kernel_rfl
@[go_sem] theorem bo43 : Try.prog.bytesOf 43 = 4 := by kernel_rfl
attribute [go_sem] Try.underlying43
@[go_sem] theorem zc43 : zeroC Try.prog 43 = some (L.pl (.u32 0) :: []) := by kernel_rfl
@[go_sem] theorem sz44 : Try.prog.cellsOf 44 = 12 := by kernel_rfl
@[go_sem] theorem bo44 : Try.prog.bytesOf 44 = 12 := by kernel_rfl
attribute [go_sem] Try.underlying44
@[go_sem] theorem zc44 : zeroC Try.prog 44 = some (bytesC (List.replicate 12 0)) := by kernel_rfl
@[go_sem] theorem ag44 : isAggT Try.prog 44 = true := by kernel_rfl
@[go_sem] theorem sz45 : Try.prog.cellsOf 45 = 64 := by kernel_rfl
@[go_sem] theorem bo45 : Try.prog.bytesOf 45 = 64 := by kernel_rfl
attribute [go_sem] Try.underlying45
@[go_sem] theorem zc45 : zeroC Try.prog 45 = some (bytesC (List.replicate 64 0)) := by kernel_rfl
@[go_sem] theorem ag45 : isAggT Try.prog 45 = true := by kernel_rfl
@[go_sem] theorem sz54 : Try.prog.cellsOf 54 = 32 := by kernel_rfl
@[go_sem] theorem bo54 : Try.prog.bytesOf 54 = 32 := by kernel_rfl
attribute [go_sem] Try.underlying54
@[go_sem] theorem zc54 : zeroC Try.prog 54 = some (bytesC (List.replicate 32 0)) := by kernel_rfl
@[go_sem] theorem ag54 : isAggT Try.prog 54 = true := by kernel_rfl
@[go_sem] theorem ae54 {xs ys : List L} (hx : xs.map kindL = ((List.replicate 32 (Kd.int .u8) : List Kd)).map some) (hy : ys.map kindL = ((List.replicate 32 (Kd.int .u8) : List Kd)).map some) : aggEq Try.prog 54 xs ys = some (eqC xs ys) := aggEq_of (by kernel_rfl) (by kernel_rfl) hx hy
@[go_sem] theorem sz55 : Try.prog.cellsOf 55 = 34 := by kernel_rfl
@[go_sem] theorem bo55 : Try.prog.bytesOf 55 = 48 := by kernel_rfl
attribute [go_sem] Try.underlying55
@[go_sem] theorem zc55 : zeroC Try.prog 55 = some (L.pl (.b false) :: bytesC (List.replicate 32 0) ++ (L.pl (.u64 0) :: [])) := by kernel_rfl
@[go_sem] theorem ag55 : isAggT Try.prog 55 = true := by kernel_rfl
@[go_sem] theorem sz56 : Try.prog.cellsOf 56 = 34 := by kernel_rfl
@[go_sem] theorem bo56 : Try.prog.bytesOf 56 = 48 := by kernel_rfl
attribute [go_sem] Try.underlying56
@[go_sem] theorem zc56 : zeroC Try.prog 56 = some (L.pl (.b false) :: bytesC (List.replicate 32 0) ++ (L.pl (.u64 0) :: [])) := by kernel_rfl
@[go_sem] theorem ag56 : isAggT Try.prog 56 = true := by kernel_rfl
@[go_sem] theorem ae56 {xs ys : List L} (hx : xs.map kindL = ((Kd.b :: List.replicate 32 (Kd.int .u8) ++ (Kd.int .u64 :: []) : List Kd)).map some) (hy : ys.map kindL = ((Kd.b :: List.replicate 32 (Kd.int .u8) ++ (Kd.int .u64 :: []) : List Kd)).map some) : aggEq Try.prog 56 xs ys = some (eqC xs ys) := aggEq_of (by kernel_rfl) (by kernel_rfl) hx hy
@[go_sem] theorem sz67 : Try.prog.cellsOf 67 = 5 := by kernel_rfl
@[go_sem] theorem bo67 : Try.prog.bytesOf 67 = 40 := by kernel_rfl
attribute [go_sem] Try.underlying67
@[go_sem] theorem zc67 : zeroC Try.prog 67 = some (L.pl (.u64 0) :: L.pl (.u64 0) :: L.pl (.u64 0) :: L.pl (.u64 0) :: L.pl (.u64 0) :: []) := by kernel_rfl
@[go_sem] theorem ag67 : isAggT Try.prog 67 = true := by kernel_rfl
@[go_sem] theorem sz68 : Try.prog.cellsOf 68 = 5 := by kernel_rfl
@[go_sem] theorem bo68 : Try.prog.bytesOf 68 = 40 := by kernel_rfl
attribute [go_sem] Try.underlying68
@[go_sem] theorem zc68 : zeroC Try.prog 68 = some (L.pl (.u64 0) :: L.pl (.u64 0) :: L.pl (.u64 0) :: L.pl (.u64 0) :: L.pl (.u64 0) :: []) := by kernel_rfl
@[go_sem] theorem ag68 : isAggT Try.prog 68 = true := by kernel_rfl
@[go_sem] theorem sz76 : Try.prog.cellsOf 76 = 16 := by kernel_rfl
@[go_sem] theorem bo76 : Try.prog.bytesOf 76 = 64 := by kernel_rfl
attribute [go_sem] Try.underlying76
@[go_sem] theorem zc76 : zeroC Try.prog 76 = some (L.pl (.u32 0) :: L.pl (.u32 0) :: L.pl (.u32 0) :: L.pl (.u32 0) :: L.pl (.u32 0) :: L.pl (.u32 0) :: L.pl (.u32 0) :: L.pl (.u32 0) :: L.pl (.u32 0) :: L.pl (.u32 0) :: L.pl (.u32 0) :: L.pl (.u32 0) :: L.pl (.u32 0) :: L.pl (.u32 0) :: L.pl (.u32 0) :: L.pl (.u32 0) :: []) := by kernel_rfl
@[go_sem] theorem ag76 : isAggT Try.prog 76 = true := by kernel_rfl
@[go_sem] theorem sz77 : Try.prog.cellsOf 77 = 16 := by kernel_rfl
@[go_sem] theorem bo77 : Try.prog.bytesOf 77 = 64 := by kernel_rfl
attribute [go_sem] Try.underlying77
@[go_sem] theorem zc77 : zeroC Try.prog 77 = some (L.pl (.u32 0) :: L.pl (.u32 0) :: L.pl (.u32 0) :: L.pl (.u32 0) :: L.pl (.u32 0) :: L.pl (.u32 0) :: L.pl (.u32 0) :: L.pl (.u32 0) :: L.pl (.u32 0) :: L.pl (.u32 0) :: L.pl (.u32 0) :: L.pl (.u32 0) :: L.pl (.u32 0) :: L.pl (.u32 0) :: L.pl (.u32 0) :: L.pl (.u32 0) :: []) := by kernel_rfl
@[go_sem] theorem ag77 : isAggT Try.prog 77 = true := by kernel_rfl
@[go_sem] theorem sz81 : Try.prog.cellsOf 81 = 4 := by kernel_rfl
@[go_sem] theorem bo81 : Try.prog.bytesOf 81 = 16 := by kernel_rfl
attribute [go_sem] Try.underlying81
@[go_sem] theorem zc81 : zeroC Try.prog 81 = some (L.pl (.u32 0) :: L.pl (.u32 0) :: L.pl (.u32 0) :: L.pl (.u32 0) :: []) := by kernel_rfl
@[go_sem] theorem ag81 : isAggT Try.prog 81 = true := by kernel_rfl
@[go_sem] theorem sz82 : Try.prog.cellsOf 82 = 16 := by kernel_rfl
@[go_sem] theorem bo82 : Try.prog.bytesOf 82 = 64 := by kernel_rfl
attribute [go_sem] Try.underlying82
@[go_sem] theorem zc82 : zeroC Try.prog 82 = some (L.pl (.u32 0) :: L.pl (.u32 0) :: L.pl (.u32 0) :: L.pl (.u32 0) :: L.pl (.u32 0) :: L.pl (.u32 0) :: L.pl (.u32 0) :: L.pl (.u32 0) :: L.pl (.u32 0) :: L.pl (.u32 0) :: L.pl (.u32 0) :: L.pl (.u32 0) :: L.pl (.u32 0) :: L.pl (.u32 0) :: L.pl (.u32 0) :: L.pl (.u32 0) :: []) := by kernel_rfl
@[go_sem] theorem ag82 : isAggT Try.prog 82 = true := by kernel_rfl
@[go_sem] theorem sz93 : Try.prog.cellsOf 93 = 1 := by kernel_rfl
@[go_sem] theorem bo93 : Try.prog.bytesOf 93 = 8 := by kernel_rfl
attribute [go_sem] Try.underlying93
@[go_sem] theorem zc93 : zeroC Try.prog 93 = some (L.pl (.u64 0) :: []) := by kernel_rfl

end Go.Sy

