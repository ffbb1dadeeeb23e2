/- Facts on the types of the program. -/
import Derived.Test.YtmopmlnpoeeomaaProg
import Derived.Test.YtmopmlnpoeeomaavE2
import Derived.KernelRfl
set_option linter.unusedVariables false
set_option linter.unusedSimpArgs false
namespace Go.Sy
open Go.Proofs
attribute [local irreducible] atCall HT runOps runD onC onE onO onG goV goA goS onSt onGuard
theorem mixed : Try.prog.follows .mixedOrders = true := by kernel_rfl
@[go_sem] theorem sz3 : Try.prog.cellsOf 3 = 1 := by kernel_rfl
@[go_sem] theorem bo3 : Try.prog.bytesOf 3 = 8 := by kernel_rfl
attribute [go_sem] Try.underlying3
@[go_sem] theorem zc3 : zeroC Try.prog 3 = some (L.pl (.i 0) :: []) := by kernel_rfl
@[go_sem] theorem sz4 : Try.prog.cellsOf 4 = 1 := by kernel_rfl
@[go_sem] theorem bo4 : Try.prog.bytesOf 4 = 1 := by kernel_rfl
attribute [go_sem] Try.underlying4
@[go_sem] theorem zc4 : zeroC Try.prog 4 = some (L.pl (.b false) :: []) := by kernel_rfl
@[go_sem] theorem sz5 : Try.prog.cellsOf 5 = 1 := by kernel_rfl
@[go_sem] theorem bo5 : Try.prog.bytesOf 5 = 1 := by kernel_rfl
attribute [go_sem] Try.underlying5
@[go_sem] theorem zc5 : zeroC Try.prog 5 = some (L.pl (.u8 0) :: []) := by kernel_rfl
@[go_sem] theorem sz9 : Try.prog.cellsOf 9 = 1 := by kernel_rfl
@[go_sem] theorem bo9 : Try.prog.bytesOf 9 = 16 := by kernel_rfl
attribute [go_sem] Try.underlying9
@[go_sem] theorem zc9 : zeroC Try.prog 9 = some (L.pl (.str []) :: []) := by kernel_rfl
@[go_sem] theorem sz22 : Try.prog.cellsOf 22 = 32 := by kernel_rfl
@[go_sem] theorem bo22 : Try.prog.bytesOf 22 = 32 := by kernel_rfl
attribute [go_sem] Try.underlying22
@[go_sem] theorem zc22 : zeroC Try.prog 22 = some (bytesC (List.replicate 32 0)) := by kernel_rfl
@[go_sem] theorem ag22 : isAggT Try.prog 22 = true := by kernel_rfl
@[go_sem] theorem ae22 {xs ys : List L} (hx : xs.map kindL = ((List.replicate 32 (Kd.int .u8) : List Kd)).map some) (hy : ys.map kindL = ((List.replicate 32 (Kd.int .u8) : List Kd)).map some) : aggEq Try.prog 22 xs ys = some (eqC xs ys) := aggEq_of (by kernel_rfl) (by kernel_rfl) hx hy
@[go_sem] theorem sz23 : Try.prog.cellsOf 23 = 32 := by kernel_rfl
@[go_sem] theorem bo23 : Try.prog.bytesOf 23 = 32 := by kernel_rfl
attribute [go_sem] Try.underlying23
@[go_sem] theorem zc23 : zeroC Try.prog 23 = some (bytesC (List.replicate 32 0)) := by kernel_rfl
@[go_sem] theorem ag23 : isAggT Try.prog 23 = true := by kernel_rfl
@[go_sem] theorem ae23 {xs ys : List L} (hx : xs.map kindL = ((List.replicate 32 (Kd.int .u8) : List Kd)).map some) (hy : ys.map kindL = ((List.replicate 32 (Kd.int .u8) : List Kd)).map some) : aggEq Try.prog 23 xs ys = some (eqC xs ys) := aggEq_of (by kernel_rfl) (by kernel_rfl) hx hy
@[go_sem] theorem sz24 : Try.prog.cellsOf 24 = 1 := by kernel_rfl
@[go_sem] theorem bo24 : Try.prog.bytesOf 24 = 8 := by kernel_rfl
attribute [go_sem] Try.underlying24
@[go_sem] theorem zc24 : zeroC Try.prog 24 = some (L.pl (.u64 0) :: []) := by kernel_rfl
@[go_sem] theorem sz25 : Try.prog.cellsOf 25 = 34 := by kernel_rfl
@[go_sem] theorem bo25 : Try.prog.bytesOf 25 = 48 := by kernel_rfl
attribute [go_sem] Try.underlying25
@[go_sem] theorem zc25 : zeroC Try.prog 25 = some (L.pl (.b false) :: bytesC (List.replicate 32 0) ++ (L.pl (.u64 0) :: [])) := by kernel_rfl
@[go_sem] theorem ag25 : isAggT Try.prog 25 = true := by kernel_rfl
@[go_sem] theorem ae25 {xs ys : List L} (hx : xs.map kindL = ((Kd.b :: List.replicate 32 (Kd.int .u8) ++ (Kd.int .u64 :: []) : List Kd)).map some) (hy : ys.map kindL = ((Kd.b :: List.replicate 32 (Kd.int .u8) ++ (Kd.int .u64 :: []) : List Kd)).map some) : aggEq Try.prog 25 xs ys = some (eqC xs ys) := aggEq_of (by kernel_rfl) (by kernel_rfl) hx hy
@[go_sem] theorem sz26 : Try.prog.cellsOf 26 = 34 := by kernel_rfl
@[go_sem] theorem bo26 : Try.prog.bytesOf 26 = 48 := by kernel_rfl
attribute [go_sem] Try.underlying26
@[go_sem] theorem zc26 : zeroC Try.prog 26 = some (L.pl (.b false) :: bytesC (List.replicate 32 0) ++ (L.pl (.u64 0) :: [])) := by kernel_rfl
@[go_sem] theorem ag26 : isAggT Try.prog 26 = true := by kernel_rfl
@[go_sem] theorem ae26 {xs ys : List L} (hx : xs.map kindL = ((Kd.b :: List.replicate 32 (Kd.int .u8) ++ (Kd.int .u64 :: []) : List Kd)).map some) (hy : ys.map kindL = ((Kd.b :: List.replicate 32 (Kd.int .u8) ++ (Kd.int .u64 :: []) : List Kd)).map some) : aggEq Try.prog 26 xs ys = some (eqC xs ys) := aggEq_of (by kernel_rfl) (by kernel_rfl) hx hy
@[go_sem] theorem sz28 : Try.prog.cellsOf 28 = 1 := by kernel_rfl
@[go_sem] theorem bo28 : Try.prog.bytesOf 28 = 8 := by kernel_rfl
attribute [go_sem] Try.underlying28
@[go_sem] theorem zc28 : zeroC Try.prog 28 = some (L.pl (.i 0) :: []) := by kernel_rfl
@[go_sem] theorem sz31 : Try.prog.cellsOf 31 = 34 := by kernel_rfl
@[go_sem] theorem bo31 : Try.prog.bytesOf 31 = 48 := by kernel_rfl
attribute [go_sem] Try.underlying31
@[go_sem] theorem zc31 : zeroC Try.prog 31 = some (bytesC (List.replicate 32 0) ++ (L.pl (.i 0) :: L.pl (.i 0) :: [])) := by kernel_rfl
@[go_sem] theorem ag31 : isAggT Try.prog 31 = true := by kernel_rfl
@[go_sem] theorem ae31 {xs ys : List L} (hx : xs.map kindL = ((List.replicate 32 (Kd.int .u8) ++ (Kd.int .i64 :: Kd.int .i64 :: []) : List Kd)).map some) (hy : ys.map kindL = ((List.replicate 32 (Kd.int .u8) ++ (Kd.int .i64 :: Kd.int .i64 :: []) : List Kd)).map some) : aggEq Try.prog 31 xs ys = some (eqC xs ys) := aggEq_of (by kernel_rfl) (by kernel_rfl) hx hy
@[go_sem] theorem sz32 : Try.prog.cellsOf 32 = 34 := by kernel_rfl
@[go_sem] theorem bo32 : Try.prog.bytesOf 32 = 48 := by kernel_rfl
attribute [go_sem] Try.underlying32
@[go_sem] theorem zc32 : zeroC Try.prog 32 = some (bytesC (List.replicate 32 0) ++ (L.pl (.i 0) :: L.pl (.i 0) :: [])) := by kernel_rfl
@[go_sem] theorem ag32 : isAggT Try.prog 32 = true := by kernel_rfl
@[go_sem] theorem ae32 {xs ys : List L} (hx : xs.map kindL = ((List.replicate 32 (Kd.int .u8) ++ (Kd.int .i64 :: Kd.int .i64 :: []) : List Kd)).map some) (hy : ys.map kindL = ((List.replicate 32 (Kd.int .u8) ++ (Kd.int .i64 :: Kd.int .i64 :: []) : List Kd)).map some) : aggEq Try.prog 32 xs ys = some (eqC xs ys) := aggEq_of (by kernel_rfl) (by kernel_rfl) hx hy
@[go_sem] theorem sz33 : Try.prog.cellsOf 33 = 1 := by kernel_rfl
@[go_sem] theorem bo33 : Try.prog.bytesOf 33 = 24 := by kernel_rfl
attribute [go_sem] Try.underlying33
@[go_sem] theorem zc33 : zeroC Try.prog 33 = some (L.pl (.R true 1 []) :: []) := by kernel_rfl
@[go_sem] theorem sz38 : Try.prog.cellsOf 38 = 1 := by kernel_rfl
@[go_sem] theorem bo38 : Try.prog.bytesOf 38 = 24 := by kernel_rfl
attribute [go_sem] Try.underlying38
@[go_sem] theorem zc38 : zeroC Try.prog 38 = some (L.pl (.R true 1 []) :: []) := by kernel_rfl
@[go_sem] theorem sz41 : Try.prog.cellsOf 41 = 1 := by kernel_rfl
@[go_sem] theorem bo41 : Try.prog.bytesOf 41 = 24 := by kernel_rfl
attribute [go_sem] Try.underlying41
@[go_sem] theorem zc41 : zeroC Try.prog 41 = some (L.pl (.R true 1 []) :: []) := by kernel_rfl
@[go_sem] theorem sz46 : Try.prog.cellsOf 46 = 34 := by kernel_rfl
@[go_sem] theorem bo46 : Try.prog.bytesOf 46 = 56 := by kernel_rfl
attribute [go_sem] Try.underlying46
@[go_sem] theorem zc46 : zeroC Try.prog 46 = some (L.pl (.str []) :: bytesC (List.replicate 32 0) ++ (L.pl (.b false) :: [])) := by kernel_rfl
@[go_sem] theorem ag46 : isAggT Try.prog 46 = true := by kernel_rfl
@[go_sem] theorem ae46 {xs ys : List L} (hx : xs.map kindL = ((Kd.s :: List.replicate 32 (Kd.int .u8) ++ (Kd.b :: []) : List Kd)).map some) (hy : ys.map kindL = ((Kd.s :: List.replicate 32 (Kd.int .u8) ++ (Kd.b :: []) : List Kd)).map some) : aggEq Try.prog 46 xs ys = some (eqC xs ys) := aggEq_of (by kernel_rfl) (by kernel_rfl) hx hy
@[go_sem] theorem sz47 : Try.prog.cellsOf 47 = 34 := by kernel_rfl
@[go_sem] theorem bo47 : Try.prog.bytesOf 47 = 56 := by kernel_rfl
attribute [go_sem] Try.underlying47
@[go_sem] theorem zc47 : zeroC Try.prog 47 = some (L.pl (.str []) :: bytesC (List.replicate 32 0) ++ (L.pl (.b false) :: [])) := by kernel_rfl
@[go_sem] theorem ag47 : isAggT Try.prog 47 = true := by kernel_rfl
@[go_sem] theorem ae47 {xs ys : List L} (hx : xs.map kindL = ((Kd.s :: List.replicate 32 (Kd.int .u8) ++ (Kd.b :: []) : List Kd)).map some) (hy : ys.map kindL = ((Kd.s :: List.replicate 32 (Kd.int .u8) ++ (Kd.b :: []) : List Kd)).map some) : aggEq Try.prog 47 xs ys = some (eqC xs ys) := aggEq_of (by kernel_rfl) (by kernel_rfl) hx hy
@[go_sem] theorem sz59 : Try.prog.cellsOf 59 = 1 := by kernel_rfl
@[go_sem] theorem bo59 : Try.prog.bytesOf 59 = 24 := by kernel_rfl
attribute [go_sem] Try.underlying59
@[go_sem] theorem zc59 : zeroC Try.prog 59 = some (L.pl (.R true 1 []) :: []) := by kernel_rfl
@[go_sem] theorem sz60 : Try.prog.cellsOf 60 = 4 := by kernel_rfl
@[go_sem] theorem bo60 : Try.prog.bytesOf 60 = 48 := by kernel_rfl
attribute [go_sem] Try.underlying60
@[go_sem] theorem zc60 : zeroC Try.prog 60 = some (L.pl (.i 0) :: L.pl (.i 0) :: L.pl (.i 0) :: L.pl (.R true 1 []) :: []) := by kernel_rfl
@[go_sem] theorem ag60 : isAggT Try.prog 60 = true := by kernel_rfl
@[go_sem] theorem sz61 : Try.prog.cellsOf 61 = 4 := by kernel_rfl
@[go_sem] theorem bo61 : Try.prog.bytesOf 61 = 48 := by kernel_rfl
attribute [go_sem] Try.underlying61
@[go_sem] theorem zc61 : zeroC Try.prog 61 = some (L.pl (.i 0) :: L.pl (.i 0) :: L.pl (.i 0) :: L.pl (.R true 1 []) :: []) := by kernel_rfl
@[go_sem] theorem ag61 : isAggT Try.prog 61 = true := by kernel_rfl
@[go_sem] theorem sz64 : Try.prog.cellsOf 64 = 2 := by kernel_rfl
@[go_sem] theorem bo64 : Try.prog.bytesOf 64 = 16 := by kernel_rfl
attribute [go_sem] Try.underlying64
@[go_sem] theorem zc64 : zeroC Try.prog 64 = some (L.pl (.i 0) :: L.pl (.i 0) :: []) := by kernel_rfl
@[go_sem] theorem ag64 : isAggT Try.prog 64 = true := by kernel_rfl
@[go_sem] theorem ae64 {xs ys : List L} (hx : xs.map kindL = ((Kd.int .i64 :: Kd.int .i64 :: [] : List Kd)).map some) (hy : ys.map kindL = ((Kd.int .i64 :: Kd.int .i64 :: [] : List Kd)).map some) : aggEq Try.prog 64 xs ys = some (eqC xs ys) := aggEq_of (by kernel_rfl) (by kernel_rfl) hx hy
@[go_sem] theorem sz65 : Try.prog.cellsOf 65 = 1 := by kernel_rfl
@[go_sem] theorem bo65 : Try.prog.bytesOf 65 = 8 := by kernel_rfl
attribute [go_sem] Try.underlying65
@[go_sem] theorem zc65 : zeroC Try.prog 65 = some (L.pl (.u64 0) :: []) := by kernel_rfl
@[go_sem] theorem sz69 : Try.prog.cellsOf 69 = 3 := by kernel_rfl
@[go_sem] theorem bo69 : Try.prog.bytesOf 69 = 40 := by kernel_rfl
attribute [go_sem] Try.underlying69
@[go_sem] theorem zc69 : zeroC Try.prog 69 = some (L.pl (.i 0) :: L.pl (.i 0) :: L.pl (.R true 1 []) :: []) := by kernel_rfl
@[go_sem] theorem ag69 : isAggT Try.prog 69 = true := by kernel_rfl
@[go_sem] theorem sz70 : Try.prog.cellsOf 70 = 3 := by kernel_rfl
@[go_sem] theorem bo70 : Try.prog.bytesOf 70 = 40 := by kernel_rfl
attribute [go_sem] Try.underlying70
@[go_sem] theorem zc70 : zeroC Try.prog 70 = some (L.pl (.i 0) :: L.pl (.i 0) :: L.pl (.R true 1 []) :: []) := by kernel_rfl
@[go_sem] theorem ag70 : isAggT Try.prog 70 = true := by kernel_rfl
@[go_sem] theorem sz83 : Try.prog.cellsOf 83 = 1 := by kernel_rfl
@[go_sem] theorem bo83 : Try.prog.bytesOf 83 = 24 := by kernel_rfl
attribute [go_sem] Try.underlying83
@[go_sem] theorem zc83 : zeroC Try.prog 83 = some (L.pl (.R true 1 []) :: []) := by kernel_rfl
@[go_sem] theorem sz84 : Try.prog.cellsOf 84 = 8 := by kernel_rfl
@[go_sem] theorem bo84 : Try.prog.bytesOf 84 = 64 := by kernel_rfl
attribute [go_sem] Try.underlying84
@[go_sem] theorem zc84 : zeroC Try.prog 84 = some (L.pl (.i 0) :: L.pl (.i 0) :: L.pl (.i 0) :: L.pl (.i 0) :: L.pl (.i 0) :: L.pl (.i 0) :: L.pl (.i 0) :: L.pl (.i 0) :: []) := by kernel_rfl
@[go_sem] theorem ag84 : isAggT Try.prog 84 = true := by kernel_rfl
@[go_sem] theorem ae84 {xs ys : List L} (hx : xs.map kindL = ((Kd.int .i64 :: Kd.int .i64 :: Kd.int .i64 :: Kd.int .i64 :: Kd.int .i64 :: Kd.int .i64 :: Kd.int .i64 :: Kd.int .i64 :: [] : List Kd)).map some) (hy : ys.map kindL = ((Kd.int .i64 :: Kd.int .i64 :: Kd.int .i64 :: Kd.int .i64 :: Kd.int .i64 :: Kd.int .i64 :: Kd.int .i64 :: Kd.int .i64 :: [] : List Kd)).map some) : aggEq Try.prog 84 xs ys = some (eqC xs ys) := aggEq_of (by kernel_rfl) (by kernel_rfl) hx hy

end Go.Sy
