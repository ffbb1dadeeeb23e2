/- Facts on the types of the program. -/
import Derived.Test.YtcmcnfjdfcianaaDoorProg
import Derived.Test.YtcmcnfjdfcianaaDoorvE3
import Derived.KernelRfl
set_option linter.unusedVariables false
set_option linter.unusedSimpArgs false
namespace Go.Sy
open Go.Proofs
attribute [local irreducible] atCall HT runOps runD onC onE onO onG goV goA goS onSt onGuard
theorem mixed : Tryd.prog.follows .mixedOrders = true := by kernel_rfl
@[go_sem] theorem sz3 : Tryd.prog.cellsOf 3 = 1 := by kernel_rfl
@[go_sem] theorem bo3 : Tryd.prog.bytesOf 3 = 8 := by kernel_rfl
attribute [go_sem] Tryd.underlying3
@[go_sem] theorem zc3 : zeroC Tryd.prog 3 = some (L.pl (.i 0) :: []) := by kernel_rfl
@[go_sem] theorem sz4 : Tryd.prog.cellsOf 4 = 1 := by kernel_rfl
@[go_sem] theorem bo4 : Tryd.prog.bytesOf 4 = 1 := by kernel_rfl
attribute [go_sem] Tryd.underlying4
@[go_sem] theorem zc4 : zeroC Tryd.prog 4 = some (L.pl (.b false) :: []) := by kernel_rfl
@[go_sem] theorem sz5 : Tryd.prog.cellsOf 5 = 1 := by kernel_rfl
@[go_sem] theorem bo5 : Tryd.prog.bytesOf 5 = 1 := by kernel_rfl
attribute [go_sem] Tryd.underlying5
@[go_sem] theorem zc5 : zeroC Tryd.prog 5 = some (L.pl (.u8 0) :: []) := by kernel_rfl
@[go_sem] theorem sz9 : Tryd.prog.cellsOf 9 = 1 := by kernel_rfl
@[go_sem] theorem bo9 : Tryd.prog.bytesOf 9 = 16 := by kernel_rfl
attribute [go_sem] Tryd.underlying9
@[go_sem] theorem zc9 : zeroC Tryd.prog 9 = some (L.pl (.str []) :: []) := by kernel_rfl
@[go_sem] theorem sz22 : Tryd.prog.cellsOf 22 = 32 := by kernel_rfl
@[go_sem] theorem bo22 : Tryd.prog.bytesOf 22 = 32 := by kernel_rfl
attribute [go_sem] Tryd.underlying22
@[go_sem] theorem zc22 : zeroC Tryd.prog 22 = some (bytesC (List.replicate 32 0)) := by kernel_rfl
@[go_sem] theorem ag22 : isAggT Tryd.prog 22 = true := by kernel_rfl
@[go_sem] theorem ae22 {xs ys : List L} (hx : xs.map kindL = ((List.replicate 32 (Kd.int .u8) : List Kd)).map some) (hy : ys.map kindL = ((List.replicate 32 (Kd.int .u8) : List Kd)).map some) : aggEq Tryd.prog 22 xs ys = some (eqC xs ys) := aggEq_of (by kernel_rfl) (by kernel_rfl) hx hy
@[go_sem] theorem sz23 : Tryd.prog.cellsOf 23 = 32 := by kernel_rfl
@[go_sem] theorem bo23 : Tryd.prog.bytesOf 23 = 32 := by kernel_rfl
attribute [go_sem] Tryd.underlying23
@[go_sem] theorem zc23 : zeroC Tryd.prog 23 = some (bytesC (List.replicate 32 0)) := by kernel_rfl
@[go_sem] theorem ag23 : isAggT Tryd.prog 23 = true := by kernel_rfl
@[go_sem] theorem ae23 {xs ys : List L} (hx : xs.map kindL = ((List.replicate 32 (Kd.int .u8) : List Kd)).map some) (hy : ys.map kindL = ((List.replicate 32 (Kd.int .u8) : List Kd)).map some) : aggEq Tryd.prog 23 xs ys = some (eqC xs ys) := aggEq_of (by kernel_rfl) (by kernel_rfl) hx hy
@[go_sem] theorem sz24 : Tryd.prog.cellsOf 24 = 1 := by kernel_rfl
@[go_sem] theorem bo24 : Tryd.prog.bytesOf 24 = 8 := by kernel_rfl
attribute [go_sem] Tryd.underlying24
@[go_sem] theorem zc24 : zeroC Tryd.prog 24 = some (L.pl (.u64 0) :: []) := by kernel_rfl
@[go_sem] theorem sz25 : Tryd.prog.cellsOf 25 = 34 := by kernel_rfl
@[go_sem] theorem bo25 : Tryd.prog.bytesOf 25 = 48 := by kernel_rfl
attribute [go_sem] Tryd.underlying25
@[go_sem] theorem zc25 : zeroC Tryd.prog 25 = some (L.pl (.b false) :: bytesC (List.replicate 32 0) ++ (L.pl (.u64 0) :: [])) := by kernel_rfl
@[go_sem] theorem ag25 : isAggT Tryd.prog 25 = true := by kernel_rfl
@[go_sem] theorem ae25 {xs ys : List L} (hx : xs.map kindL = ((Kd.b :: List.replicate 32 (Kd.int .u8) ++ (Kd.int .u64 :: []) : List Kd)).map some) (hy : ys.map kindL = ((Kd.b :: List.replicate 32 (Kd.int .u8) ++ (Kd.int .u64 :: []) : List Kd)).map some) : aggEq Tryd.prog 25 xs ys = some (eqC xs ys) := aggEq_of (by kernel_rfl) (by kernel_rfl) hx hy
@[go_sem] theorem sz26 : Tryd.prog.cellsOf 26 = 34 := by kernel_rfl
@[go_sem] theorem bo26 : Tryd.prog.bytesOf 26 = 48 := by kernel_rfl
attribute [go_sem] Tryd.underlying26
@[go_sem] theorem zc26 : zeroC Tryd.prog 26 = some (L.pl (.b false) :: bytesC (List.replicate 32 0) ++ (L.pl (.u64 0) :: [])) := by kernel_rfl
@[go_sem] theorem ag26 : isAggT Tryd.prog 26 = true := by kernel_rfl
@[go_sem] theorem ae26 {xs ys : List L} (hx : xs.map kindL = ((Kd.b :: List.replicate 32 (Kd.int .u8) ++ (Kd.int .u64 :: []) : List Kd)).map some) (hy : ys.map kindL = ((Kd.b :: List.replicate 32 (Kd.int .u8) ++ (Kd.int .u64 :: []) : List Kd)).map some) : aggEq Tryd.prog 26 xs ys = some (eqC xs ys) := aggEq_of (by kernel_rfl) (by kernel_rfl) hx hy
@[go_sem] theorem sz27 : Tryd.prog.cellsOf 27 = 98 := by kernel_rfl
@[go_sem] theorem bo27 : Tryd.prog.bytesOf 27 = 112 := by kernel_rfl
attribute [go_sem] Tryd.underlying27
@[go_sem] theorem zc27 : zeroC Tryd.prog 27 = some (L.pl (.b false) :: bytesC (List.replicate 32 0) ++ (L.pl (.u64 0) :: bytesC (List.replicate 32 0) ++ (bytesC (List.replicate 32 0)))) := by kernel_rfl
@[go_sem] theorem ag27 : isAggT Tryd.prog 27 = true := by kernel_rfl
@[go_sem] theorem ae27 {xs ys : List L} (hx : xs.map kindL = ((Kd.b :: List.replicate 32 (Kd.int .u8) ++ (Kd.int .u64 :: List.replicate 32 (Kd.int .u8) ++ (List.replicate 32 (Kd.int .u8))) : List Kd)).map some) (hy : ys.map kindL = ((Kd.b :: List.replicate 32 (Kd.int .u8) ++ (Kd.int .u64 :: List.replicate 32 (Kd.int .u8) ++ (List.replicate 32 (Kd.int .u8))) : List Kd)).map some) : aggEq Tryd.prog 27 xs ys = some (eqC xs ys) := aggEq_of (by kernel_rfl) (by kernel_rfl) hx hy
@[go_sem] theorem sz28 : Tryd.prog.cellsOf 28 = 98 := by kernel_rfl
@[go_sem] theorem bo28 : Tryd.prog.bytesOf 28 = 112 := by kernel_rfl
attribute [go_sem] Tryd.underlying28
@[go_sem] theorem zc28 : zeroC Tryd.prog 28 = some (L.pl (.b false) :: bytesC (List.replicate 32 0) ++ (L.pl (.u64 0) :: bytesC (List.replicate 32 0) ++ (bytesC (List.replicate 32 0)))) := by kernel_rfl
@[go_sem] theorem ag28 : isAggT Tryd.prog 28 = true := by kernel_rfl
@[go_sem] theorem ae28 {xs ys : List L} (hx : xs.map kindL = ((Kd.b :: List.replicate 32 (Kd.int .u8) ++ (Kd.int .u64 :: List.replicate 32 (Kd.int .u8) ++ (List.replicate 32 (Kd.int .u8))) : List Kd)).map some) (hy : ys.map kindL = ((Kd.b :: List.replicate 32 (Kd.int .u8) ++ (Kd.int .u64 :: List.replicate 32 (Kd.int .u8) ++ (List.replicate 32 (Kd.int .u8))) : List Kd)).map some) : aggEq Tryd.prog 28 xs ys = some (eqC xs ys) := aggEq_of (by kernel_rfl) (by kernel_rfl) hx hy
@[go_sem] theorem sz29 : Tryd.prog.cellsOf 29 = 1 := by kernel_rfl
@[go_sem] theorem bo29 : Tryd.prog.bytesOf 29 = 24 := by kernel_rfl
attribute [go_sem] Tryd.underlying29
@[go_sem] theorem zc29 : zeroC Tryd.prog 29 = some (L.pl (.R true 1 []) :: []) := by kernel_rfl
@[go_sem] theorem sz30 : Tryd.prog.cellsOf 30 = 1 := by kernel_rfl
@[go_sem] theorem bo30 : Tryd.prog.bytesOf 30 = 8 := by kernel_rfl
attribute [go_sem] Tryd.underlying30
@[go_sem] theorem zc30 : zeroC Tryd.prog 30 = some (L.pl (.i 0) :: []) := by kernel_rfl
@[go_sem] theorem sz36 : Tryd.prog.cellsOf 36 = 1 := by kernel_rfl
@[go_sem] theorem bo36 : Tryd.prog.bytesOf 36 = 24 := by kernel_rfl
attribute [go_sem] Tryd.underlying36
@[go_sem] theorem zc36 : zeroC Tryd.prog 36 = some (L.pl (.R true 1 []) :: []) := by kernel_rfl
@[go_sem] theorem sz37 : Tryd.prog.cellsOf 37 = 2 := by kernel_rfl
@[go_sem] theorem bo37 : Tryd.prog.bytesOf 37 = 48 := by kernel_rfl
attribute [go_sem] Tryd.underlying37
@[go_sem] theorem zc37 : zeroC Tryd.prog 37 = some (L.pl (.R true 1 []) :: L.pl (.R true 1 []) :: []) := by kernel_rfl
@[go_sem] theorem ag37 : isAggT Tryd.prog 37 = true := by kernel_rfl
@[go_sem] theorem sz38 : Tryd.prog.cellsOf 38 = 1 := by kernel_rfl
@[go_sem] theorem bo38 : Tryd.prog.bytesOf 38 = 24 := by kernel_rfl
attribute [go_sem] Tryd.underlying38
@[go_sem] theorem zc38 : zeroC Tryd.prog 38 = some (L.pl (.R true 1 []) :: []) := by kernel_rfl
@[go_sem] theorem sz39 : Tryd.prog.cellsOf 39 = 6 := by kernel_rfl
@[go_sem] theorem bo39 : Tryd.prog.bytesOf 39 = 120 := by kernel_rfl
attribute [go_sem] Tryd.underlying39
@[go_sem] theorem zc39 : zeroC Tryd.prog 39 = some (L.pl (.str []) :: L.pl (.b false) :: L.pl (.R true 1 []) :: L.pl (.R true 1 []) :: L.pl (.R true 1 []) :: L.pl (.R true 1 []) :: []) := by kernel_rfl
@[go_sem] theorem ag39 : isAggT Tryd.prog 39 = true := by kernel_rfl
@[go_sem] theorem sz40 : Tryd.prog.cellsOf 40 = 6 := by kernel_rfl
@[go_sem] theorem bo40 : Tryd.prog.bytesOf 40 = 120 := by kernel_rfl
attribute [go_sem] Tryd.underlying40
@[go_sem] theorem zc40 : zeroC Tryd.prog 40 = some (L.pl (.str []) :: L.pl (.b false) :: L.pl (.R true 1 []) :: L.pl (.R true 1 []) :: L.pl (.R true 1 []) :: L.pl (.R true 1 []) :: []) := by kernel_rfl
@[go_sem] theorem ag40 : isAggT Tryd.prog 40 = true := by kernel_rfl
@[go_sem] theorem sz41 : Tryd.prog.cellsOf 41 = 1 := by kernel_rfl
@[go_sem] theorem bo41 : Tryd.prog.bytesOf 41 = 24 := by kernel_rfl
attribute [go_sem] Tryd.underlying41
@[go_sem] theorem zc41 : zeroC Tryd.prog 41 = some (L.pl (.R true 1 []) :: []) := by kernel_rfl
@[go_sem] theorem sz42 : Tryd.prog.cellsOf 42 = 240 := by kernel_rfl
@[go_sem] theorem bo42 : Tryd.prog.bytesOf 42 = 424 := by kernel_rfl
attribute [go_sem] Tryd.underlying42
@[go_sem] theorem zc42 : zeroC Tryd.prog 42 = some (L.pl (.str []) :: L.pl (.b false) :: L.pl (.R true 1 []) :: L.pl (.R true 1 []) :: L.pl (.R true 1 []) :: L.pl (.R true 1 []) :: L.pl (.b false) :: L.pl (.i 0) :: L.pl (.b false) :: L.pl (.b false) :: bytesC (List.replicate 32 0) ++ (L.pl (.u64 0) :: bytesC (List.replicate 32 0) ++ (bytesC (List.replicate 32 0) ++ (bytesC (List.replicate 32 0) ++ (bytesC (List.replicate 32 0) ++ (L.pl (.b false) :: bytesC (List.replicate 32 0) ++ (L.pl (.b false) :: bytesC (List.replicate 32 0) ++ (L.pl (.b false) :: L.pl (.R true 1 []) :: L.pl (.i 0) :: [])))))))) := by kernel_rfl
@[go_sem] theorem ag42 : isAggT Tryd.prog 42 = true := by kernel_rfl
@[go_sem] theorem sz43 : Tryd.prog.cellsOf 43 = 240 := by kernel_rfl
@[go_sem] theorem bo43 : Tryd.prog.bytesOf 43 = 424 := by kernel_rfl
attribute [go_sem] Tryd.underlying43
@[go_sem] theorem zc43 : zeroC Tryd.prog 43 = some (L.pl (.str []) :: L.pl (.b false) :: L.pl (.R true 1 []) :: L.pl (.R true 1 []) :: L.pl (.R true 1 []) :: L.pl (.R true 1 []) :: L.pl (.b false) :: L.pl (.i 0) :: L.pl (.b false) :: L.pl (.b false) :: bytesC (List.replicate 32 0) ++ (L.pl (.u64 0) :: bytesC (List.replicate 32 0) ++ (bytesC (List.replicate 32 0) ++ (bytesC (List.replicate 32 0) ++ (bytesC (List.replicate 32 0) ++ (L.pl (.b false) :: bytesC (List.replicate 32 0) ++ (L.pl (.b false) :: bytesC (List.replicate 32 0) ++ (L.pl (.b false) :: L.pl (.R true 1 []) :: L.pl (.i 0) :: [])))))))) := by kernel_rfl
@[go_sem] theorem ag43 : isAggT Tryd.prog 43 = true := by kernel_rfl
@[go_sem] theorem sz45 : Tryd.prog.cellsOf 45 = 68 := by kernel_rfl
@[go_sem] theorem bo45 : Tryd.prog.bytesOf 45 = 96 := by kernel_rfl
attribute [go_sem] Tryd.underlying45
@[go_sem] theorem zc45 : zeroC Tryd.prog 45 = some (L.pl (.b false) :: bytesC (List.replicate 32 0) ++ (L.pl (.u64 0) :: L.pl (.b false) :: bytesC (List.replicate 32 0) ++ (L.pl (.u64 0) :: []))) := by kernel_rfl
@[go_sem] theorem ag45 : isAggT Tryd.prog 45 = true := by kernel_rfl
@[go_sem] theorem ae45 {xs ys : List L} (hx : xs.map kindL = ((Kd.b :: List.replicate 32 (Kd.int .u8) ++ (Kd.int .u64 :: Kd.b :: List.replicate 32 (Kd.int .u8) ++ (Kd.int .u64 :: [])) : List Kd)).map some) (hy : ys.map kindL = ((Kd.b :: List.replicate 32 (Kd.int .u8) ++ (Kd.int .u64 :: Kd.b :: List.replicate 32 (Kd.int .u8) ++ (Kd.int .u64 :: [])) : List Kd)).map some) : aggEq Tryd.prog 45 xs ys = some (eqC xs ys) := aggEq_of (by kernel_rfl) (by kernel_rfl) hx hy
@[go_sem] theorem sz59 : Tryd.prog.cellsOf 59 = 12 := by kernel_rfl
@[go_sem] theorem bo59 : Tryd.prog.bytesOf 59 = 12 := by kernel_rfl
attribute [go_sem] Tryd.underlying59
@[go_sem] theorem zc59 : zeroC Tryd.prog 59 = some (bytesC (List.replicate 12 0)) := by kernel_rfl
@[go_sem] theorem ag59 : isAggT Tryd.prog 59 = true := by kernel_rfl
@[go_sem] theorem ae59 {xs ys : List L} (hx : xs.map kindL = ((List.replicate 12 (Kd.int .u8) : List Kd)).map some) (hy : ys.map kindL = ((List.replicate 12 (Kd.int .u8) : List Kd)).map some) : aggEq Tryd.prog 59 xs ys = some (eqC xs ys) := aggEq_of (by kernel_rfl) (by kernel_rfl) hx hy
@[go_sem] theorem sz63 : Tryd.prog.cellsOf 63 = 64 := by kernel_rfl
@[go_sem] theorem bo63 : Tryd.prog.bytesOf 63 = 64 := by kernel_rfl
attribute [go_sem] Tryd.underlying63
@[go_sem] theorem zc63 : zeroC Tryd.prog 63 = some (bytesC (List.replicate 32 0) ++ (bytesC (List.replicate 32 0))) := by kernel_rfl
@[go_sem] theorem ag63 : isAggT Tryd.prog 63 = true := by kernel_rfl
@[go_sem] theorem ae63 {xs ys : List L} (hx : xs.map kindL = ((List.replicate 32 (Kd.int .u8) ++ (List.replicate 32 (Kd.int .u8)) : List Kd)).map some) (hy : ys.map kindL = ((List.replicate 32 (Kd.int .u8) ++ (List.replicate 32 (Kd.int .u8)) : List Kd)).map some) : aggEq Tryd.prog 63 xs ys = some (eqC xs ys) := aggEq_of (by kernel_rfl) (by kernel_rfl) hx hy
@[go_sem] theorem sz66 : Tryd.prog.cellsOf 66 = 96 := by kernel_rfl
@[go_sem] theorem bo66 : Tryd.prog.bytesOf 66 = 96 := by kernel_rfl
attribute [go_sem] Tryd.underlying66
@[go_sem] theorem zc66 : zeroC Tryd.prog 66 = some (bytesC (List.replicate 32 0) ++ (bytesC (List.replicate 32 0) ++ (bytesC (List.replicate 32 0)))) := by kernel_rfl
@[go_sem] theorem ag66 : isAggT Tryd.prog 66 = true := by kernel_rfl
@[go_sem] theorem ae66 {xs ys : List L} (hx : xs.map kindL = ((List.replicate 32 (Kd.int .u8) ++ (List.replicate 32 (Kd.int .u8) ++ (List.replicate 32 (Kd.int .u8))) : List Kd)).map some) (hy : ys.map kindL = ((List.replicate 32 (Kd.int .u8) ++ (List.replicate 32 (Kd.int .u8) ++ (List.replicate 32 (Kd.int .u8))) : List Kd)).map some) : aggEq Tryd.prog 66 xs ys = some (eqC xs ys) := aggEq_of (by kernel_rfl) (by kernel_rfl) hx hy
@[go_sem] theorem sz69 : Tryd.prog.cellsOf 69 = 1 := by kernel_rfl
@[go_sem] theorem bo69 : Tryd.prog.bytesOf 69 = 4 := by kernel_rfl
attribute [go_sem] Tryd.underlying69
@[go_sem] theorem zc69 : zeroC Tryd.prog 69 = some (L.pl (.u32 0) :: []) := by kernel_rfl
@[go_sem] theorem sz70 : Tryd.prog.cellsOf 70 = 16 := by kernel_rfl
@[go_sem] theorem bo70 : Tryd.prog.bytesOf 70 = 16 := by kernel_rfl
attribute [go_sem] Tryd.underlying70
@[go_sem] theorem zc70 : zeroC Tryd.prog 70 = some (bytesC (List.replicate 16 0)) := by kernel_rfl
@[go_sem] theorem ag70 : isAggT Tryd.prog 70 = true := by kernel_rfl
@[go_sem] theorem ae70 {xs ys : List L} (hx : xs.map kindL = ((List.replicate 16 (Kd.int .u8) : List Kd)).map some) (hy : ys.map kindL = ((List.replicate 16 (Kd.int .u8) : List Kd)).map some) : aggEq Tryd.prog 70 xs ys = some (eqC xs ys) := aggEq_of (by kernel_rfl) (by kernel_rfl) hx hy
@[go_sem] theorem sz72 : Tryd.prog.cellsOf 72 = 8 := by kernel_rfl
@[go_sem] theorem bo72 : Tryd.prog.bytesOf 72 = 32 := by kernel_rfl
attribute [go_sem] Tryd.underlying72
@[go_sem] theorem zc72 : zeroC Tryd.prog 72 = some (L.pl (.u32 0) :: L.pl (.u32 0) :: L.pl (.u32 0) :: L.pl (.u32 0) :: L.pl (.u32 0) :: L.pl (.u32 0) :: L.pl (.u32 0) :: L.pl (.u32 0) :: []) := by kernel_rfl
@[go_sem] theorem ag72 : isAggT Tryd.prog 72 = true := by kernel_rfl
@[go_sem] theorem ae72 {xs ys : List L} (hx : xs.map kindL = ((Kd.int .u32 :: Kd.int .u32 :: Kd.int .u32 :: Kd.int .u32 :: Kd.int .u32 :: Kd.int .u32 :: Kd.int .u32 :: Kd.int .u32 :: [] : List Kd)).map some) (hy : ys.map kindL = ((Kd.int .u32 :: Kd.int .u32 :: Kd.int .u32 :: Kd.int .u32 :: Kd.int .u32 :: Kd.int .u32 :: Kd.int .u32 :: Kd.int .u32 :: [] : List Kd)).map some) : aggEq Tryd.prog 72 xs ys = some (eqC xs ys) := aggEq_of (by kernel_rfl) (by kernel_rfl) hx hy
@[go_sem] theorem sz73 : Tryd.prog.cellsOf 73 = 64 := by kernel_rfl
@[go_sem] theorem bo73 : Tryd.prog.bytesOf 73 = 64 := by kernel_rfl
attribute [go_sem] Tryd.underlying73
@[go_sem] theorem zc73 : zeroC Tryd.prog 73 = some (bytesC (List.replicate 64 0)) := by kernel_rfl
@[go_sem] theorem ag73 : isAggT Tryd.prog 73 = true := by kernel_rfl
@[go_sem] theorem ae73 {xs ys : List L} (hx : xs.map kindL = ((List.replicate 64 (Kd.int .u8) : List Kd)).map some) (hy : ys.map kindL = ((List.replicate 64 (Kd.int .u8) : List Kd)).map some) : aggEq Tryd.prog 73 xs ys = some (eqC xs ys) := aggEq_of (by kernel_rfl) (by kernel_rfl) hx hy
@[go_sem] theorem sz74 : Tryd.prog.cellsOf 74 = 74 := by kernel_rfl
@[go_sem] theorem bo74 : Tryd.prog.bytesOf 74 = 112 := by kernel_rfl
attribute [go_sem] Tryd.underlying74
@[go_sem] theorem zc74 : zeroC Tryd.prog 74 = some (L.pl (.u32 0) :: L.pl (.u32 0) :: L.pl (.u32 0) :: L.pl (.u32 0) :: L.pl (.u32 0) :: L.pl (.u32 0) :: L.pl (.u32 0) :: L.pl (.u32 0) :: bytesC (List.replicate 64 0) ++ (L.pl (.i 0) :: L.pl (.i 0) :: [])) := by kernel_rfl
@[go_sem] theorem ag74 : isAggT Tryd.prog 74 = true := by kernel_rfl
@[go_sem] theorem ae74 {xs ys : List L} (hx : xs.map kindL = ((Kd.int .u32 :: Kd.int .u32 :: Kd.int .u32 :: Kd.int .u32 :: Kd.int .u32 :: Kd.int .u32 :: Kd.int .u32 :: Kd.int .u32 :: List.replicate 64 (Kd.int .u8) ++ (Kd.int .i64 :: Kd.int .i64 :: []) : List Kd)).map some) (hy : ys.map kindL = ((Kd.int .u32 :: Kd.int .u32 :: Kd.int .u32 :: Kd.int .u32 :: Kd.int .u32 :: Kd.int .u32 :: Kd.int .u32 :: Kd.int .u32 :: List.replicate 64 (Kd.int .u8) ++ (Kd.int .i64 :: Kd.int .i64 :: []) : List Kd)).map some) : aggEq Tryd.prog 74 xs ys = some (eqC xs ys) := aggEq_of (by kernel_rfl) (by kernel_rfl) hx hy
@[go_sem] theorem sz75 : Tryd.prog.cellsOf 75 = 74 := by kernel_rfl
@[go_sem] theorem bo75 : Tryd.prog.bytesOf 75 = 112 := by kernel_rfl
attribute [go_sem] Tryd.underlying75
@[go_sem] theorem zc75 : zeroC Tryd.prog 75 = some (L.pl (.u32 0) :: L.pl (.u32 0) :: L.pl (.u32 0) :: L.pl (.u32 0) :: L.pl (.u32 0) :: L.pl (.u32 0) :: L.pl (.u32 0) :: L.pl (.u32 0) :: bytesC (List.replicate 64 0) ++ (L.pl (.i 0) :: L.pl (.i 0) :: [])) := by kernel_rfl
@[go_sem] theorem ag75 : isAggT Tryd.prog 75 = true := by kernel_rfl
@[go_sem] theorem ae75 {xs ys : List L} (hx : xs.map kindL = ((Kd.int .u32 :: Kd.int .u32 :: Kd.int .u32 :: Kd.int .u32 :: Kd.int .u32 :: Kd.int .u32 :: Kd.int .u32 :: Kd.int .u32 :: List.replicate 64 (Kd.int .u8) ++ (Kd.int .i64 :: Kd.int .i64 :: []) : List Kd)).map some) (hy : ys.map kindL = ((Kd.int .u32 :: Kd.int .u32 :: Kd.int .u32 :: Kd.int .u32 :: Kd.int .u32 :: Kd.int .u32 :: Kd.int .u32 :: Kd.int .u32 :: List.replicate 64 (Kd.int .u8) ++ (Kd.int .i64 :: Kd.int .i64 :: []) : List Kd)).map some) : aggEq Tryd.prog 75 xs ys = some (eqC xs ys) := aggEq_of (by kernel_rfl) (by kernel_rfl) hx hy
@[go_sem] theorem sz99 : Tryd.prog.cellsOf 99 = 16 := by kernel_rfl
@[go_sem] theorem bo99 : Tryd.prog.bytesOf 99 = 64 := by kernel_rfl
attribute [go_sem] Tryd.underlying99
@[go_sem] theorem zc99 : zeroC Tryd.prog 99 = some (L.pl (.u32 0) :: L.pl (.u32 0) :: L.pl (.u32 0) :: L.pl (.u32 0) :: L.pl (.u32 0) :: L.pl (.u32 0) :: L.pl (.u32 0) :: L.pl (.u32 0) :: L.pl (.u32 0) :: L.pl (.u32 0) :: L.pl (.u32 0) :: L.pl (.u32 0) :: L.pl (.u32 0) :: L.pl (.u32 0) :: L.pl (.u32 0) :: L.pl (.u32 0) :: []) := by kernel_rfl
@[go_sem] theorem ag99 : isAggT Tryd.prog 99 = true := by kernel_rfl
@[go_sem] theorem ae99 {xs ys : List L} (hx : xs.map kindL = ((Kd.int .u32 :: Kd.int .u32 :: Kd.int .u32 :: Kd.int .u32 :: Kd.int .u32 :: Kd.int .u32 :: Kd.int .u32 :: Kd.int .u32 :: Kd.int .u32 :: Kd.int .u32 :: Kd.int .u32 :: Kd.int .u32 :: Kd.int .u32 :: Kd.int .u32 :: Kd.int .u32 :: Kd.int .u32 :: [] : List Kd)).map some) (hy : ys.map kindL = ((Kd.int .u32 :: Kd.int .u32 :: Kd.int .u32 :: Kd.int .u32 :: Kd.int .u32 :: Kd.int .u32 :: Kd.int .u32 :: Kd.int .u32 :: Kd.int .u32 :: Kd.int .u32 :: Kd.int .u32 :: Kd.int .u32 :: Kd.int .u32 :: Kd.int .u32 :: Kd.int .u32 :: Kd.int .u32 :: [] : List Kd)).map some) : aggEq Tryd.prog 99 xs ys = some (eqC xs ys) := aggEq_of (by kernel_rfl) (by kernel_rfl) hx hy
@[go_sem] theorem sz100 : Tryd.prog.cellsOf 100 = 16 := by kernel_rfl
@[go_sem] theorem bo100 : Tryd.prog.bytesOf 100 = 64 := by kernel_rfl
attribute [go_sem] Tryd.underlying100
@[go_sem] theorem zc100 : zeroC Tryd.prog 100 = some (L.pl (.u32 0) :: L.pl (.u32 0) :: L.pl (.u32 0) :: L.pl (.u32 0) :: L.pl (.u32 0) :: L.pl (.u32 0) :: L.pl (.u32 0) :: L.pl (.u32 0) :: L.pl (.u32 0) :: L.pl (.u32 0) :: L.pl (.u32 0) :: L.pl (.u32 0) :: L.pl (.u32 0) :: L.pl (.u32 0) :: L.pl (.u32 0) :: L.pl (.u32 0) :: []) := by kernel_rfl
@[go_sem] theorem ag100 : isAggT Tryd.prog 100 = true := by kernel_rfl
@[go_sem] theorem ae100 {xs ys : List L} (hx : xs.map kindL = ((Kd.int .u32 :: Kd.int .u32 :: Kd.int .u32 :: Kd.int .u32 :: Kd.int .u32 :: Kd.int .u32 :: Kd.int .u32 :: Kd.int .u32 :: Kd.int .u32 :: Kd.int .u32 :: Kd.int .u32 :: Kd.int .u32 :: Kd.int .u32 :: Kd.int .u32 :: Kd.int .u32 :: Kd.int .u32 :: [] : List Kd)).map some) (hy : ys.map kindL = ((Kd.int .u32 :: Kd.int .u32 :: Kd.int .u32 :: Kd.int .u32 :: Kd.int .u32 :: Kd.int .u32 :: Kd.int .u32 :: Kd.int .u32 :: Kd.int .u32 :: Kd.int .u32 :: Kd.int .u32 :: Kd.int .u32 :: Kd.int .u32 :: Kd.int .u32 :: Kd.int .u32 :: Kd.int .u32 :: [] : List Kd)).map some) : aggEq Tryd.prog 100 xs ys = some (eqC xs ys) := aggEq_of (by kernel_rfl) (by kernel_rfl) hx hy
@[go_sem] theorem sz104 : Tryd.prog.cellsOf 104 = 2 := by kernel_rfl
@[go_sem] theorem bo104 : Tryd.prog.bytesOf 104 = 16 := by kernel_rfl
attribute [go_sem] Tryd.underlying104
@[go_sem] theorem zc104 : zeroC Tryd.prog 104 = some (L.pl (.u64 0) :: L.pl (.u64 0) :: []) := by kernel_rfl
@[go_sem] theorem ag104 : isAggT Tryd.prog 104 = true := by kernel_rfl
@[go_sem] theorem ae104 {xs ys : List L} (hx : xs.map kindL = ((Kd.int .u64 :: Kd.int .u64 :: [] : List Kd)).map some) (hy : ys.map kindL = ((Kd.int .u64 :: Kd.int .u64 :: [] : List Kd)).map some) : aggEq Tryd.prog 104 xs ys = some (eqC xs ys) := aggEq_of (by kernel_rfl) (by kernel_rfl) hx hy
@[go_sem] theorem sz105 : Tryd.prog.cellsOf 105 = 3 := by kernel_rfl
@[go_sem] theorem bo105 : Tryd.prog.bytesOf 105 = 24 := by kernel_rfl
attribute [go_sem] Tryd.underlying105
@[go_sem] theorem zc105 : zeroC Tryd.prog 105 = some (L.pl (.u64 0) :: L.pl (.u64 0) :: L.pl (.u64 0) :: []) := by kernel_rfl
@[go_sem] theorem ag105 : isAggT Tryd.prog 105 = true := by kernel_rfl
@[go_sem] theorem ae105 {xs ys : List L} (hx : xs.map kindL = ((Kd.int .u64 :: Kd.int .u64 :: Kd.int .u64 :: [] : List Kd)).map some) (hy : ys.map kindL = ((Kd.int .u64 :: Kd.int .u64 :: Kd.int .u64 :: [] : List Kd)).map some) : aggEq Tryd.prog 105 xs ys = some (eqC xs ys) := aggEq_of (by kernel_rfl) (by kernel_rfl) hx hy
@[go_sem] theorem sz106 : Tryd.prog.cellsOf 106 = 24 := by kernel_rfl
@[go_sem] theorem bo106 : Tryd.prog.bytesOf 106 = 80 := by kernel_rfl
attribute [go_sem] Tryd.underlying106
@[go_sem] theorem zc106 : zeroC Tryd.prog 106 = some (L.pl (.u64 0) :: L.pl (.u64 0) :: L.pl (.u64 0) :: L.pl (.u64 0) :: L.pl (.u64 0) :: L.pl (.u64 0) :: L.pl (.u64 0) :: bytesC (List.replicate 16 0) ++ (L.pl (.i 0) :: [])) := by kernel_rfl
@[go_sem] theorem ag106 : isAggT Tryd.prog 106 = true := by kernel_rfl
@[go_sem] theorem ae106 {xs ys : List L} (hx : xs.map kindL = ((Kd.int .u64 :: Kd.int .u64 :: Kd.int .u64 :: Kd.int .u64 :: Kd.int .u64 :: Kd.int .u64 :: Kd.int .u64 :: List.replicate 16 (Kd.int .u8) ++ (Kd.int .i64 :: []) : List Kd)).map some) (hy : ys.map kindL = ((Kd.int .u64 :: Kd.int .u64 :: Kd.int .u64 :: Kd.int .u64 :: Kd.int .u64 :: Kd.int .u64 :: Kd.int .u64 :: List.replicate 16 (Kd.int .u8) ++ (Kd.int .i64 :: []) : List Kd)).map some) : aggEq Tryd.prog 106 xs ys = some (eqC xs ys) := aggEq_of (by kernel_rfl) (by kernel_rfl) hx hy
@[go_sem] theorem sz107 : Tryd.prog.cellsOf 107 = 24 := by kernel_rfl
@[go_sem] theorem bo107 : Tryd.prog.bytesOf 107 = 80 := by kernel_rfl
attribute [go_sem] Tryd.underlying107
@[go_sem] theorem zc107 : zeroC Tryd.prog 107 = some (L.pl (.u64 0) :: L.pl (.u64 0) :: L.pl (.u64 0) :: L.pl (.u64 0) :: L.pl (.u64 0) :: L.pl (.u64 0) :: L.pl (.u64 0) :: bytesC (List.replicate 16 0) ++ (L.pl (.i 0) :: [])) := by kernel_rfl
@[go_sem] theorem ag107 : isAggT Tryd.prog 107 = true := by kernel_rfl
@[go_sem] theorem ae107 {xs ys : List L} (hx : xs.map kindL = ((Kd.int .u64 :: Kd.int .u64 :: Kd.int .u64 :: Kd.int .u64 :: Kd.int .u64 :: Kd.int .u64 :: Kd.int .u64 :: List.replicate 16 (Kd.int .u8) ++ (Kd.int .i64 :: []) : List Kd)).map some) (hy : ys.map kindL = ((Kd.int .u64 :: Kd.int .u64 :: Kd.int .u64 :: Kd.int .u64 :: Kd.int .u64 :: Kd.int .u64 :: Kd.int .u64 :: List.replicate 16 (Kd.int .u8) ++ (Kd.int .i64 :: []) : List Kd)).map some) : aggEq Tryd.prog 107 xs ys = some (eqC xs ys) := aggEq_of (by kernel_rfl) (by kernel_rfl) hx hy
@[go_sem] theorem sz113 : Tryd.prog.cellsOf 113 = 1 := by kernel_rfl
@[go_sem] theorem bo113 : Tryd.prog.bytesOf 113 = 8 := by kernel_rfl
attribute [go_sem] Tryd.underlying113
@[go_sem] theorem zc113 : zeroC Tryd.prog 113 = some (L.pl (.u64 0) :: []) := by kernel_rfl
@[go_sem] theorem sz116 : Tryd.prog.cellsOf 116 = 16 := by kernel_rfl
@[go_sem] theorem bo116 : Tryd.prog.bytesOf 116 = 128 := by kernel_rfl
attribute [go_sem] Tryd.underlying116
@[go_sem] theorem zc116 : zeroC Tryd.prog 116 = some (L.pl (.i 0) :: L.pl (.i 0) :: L.pl (.i 0) :: L.pl (.i 0) :: L.pl (.i 0) :: L.pl (.i 0) :: L.pl (.i 0) :: L.pl (.i 0) :: L.pl (.i 0) :: L.pl (.i 0) :: L.pl (.i 0) :: L.pl (.i 0) :: L.pl (.i 0) :: L.pl (.i 0) :: L.pl (.i 0) :: L.pl (.i 0) :: []) := by kernel_rfl
@[go_sem] theorem ag116 : isAggT Tryd.prog 116 = true := by kernel_rfl
@[go_sem] theorem ae116 {xs ys : List L} (hx : xs.map kindL = ((Kd.int .i64 :: Kd.int .i64 :: Kd.int .i64 :: Kd.int .i64 :: Kd.int .i64 :: Kd.int .i64 :: Kd.int .i64 :: Kd.int .i64 :: Kd.int .i64 :: Kd.int .i64 :: Kd.int .i64 :: Kd.int .i64 :: Kd.int .i64 :: Kd.int .i64 :: Kd.int .i64 :: Kd.int .i64 :: [] : List Kd)).map some) (hy : ys.map kindL = ((Kd.int .i64 :: Kd.int .i64 :: Kd.int .i64 :: Kd.int .i64 :: Kd.int .i64 :: Kd.int .i64 :: Kd.int .i64 :: Kd.int .i64 :: Kd.int .i64 :: Kd.int .i64 :: Kd.int .i64 :: Kd.int .i64 :: Kd.int .i64 :: Kd.int .i64 :: Kd.int .i64 :: Kd.int .i64 :: [] : List Kd)).map some) : aggEq Tryd.prog 116 xs ys = some (eqC xs ys) := aggEq_of (by kernel_rfl) (by kernel_rfl) hx hy
@[go_sem] theorem sz117 : Tryd.prog.cellsOf 117 = 160 := by kernel_rfl
@[go_sem] theorem bo117 : Tryd.prog.bytesOf 117 = 1280 := by kernel_rfl
attribute [go_sem] Tryd.underlying117
@[go_sem] theorem zc117 : zeroC Tryd.prog 117 = some (L.pl (.i 0) :: L.pl (.i 0) :: L.pl (.i 0) :: L.pl (.i 0) :: L.pl (.i 0) :: L.pl (.i 0) :: L.pl (.i 0) :: L.pl (.i 0) :: L.pl (.i 0) :: L.pl (.i 0) :: L.pl (.i 0) :: L.pl (.i 0) :: L.pl (.i 0) :: L.pl (.i 0) :: L.pl (.i 0) :: L.pl (.i 0) :: L.pl (.i 0) :: L.pl (.i 0) :: L.pl (.i 0) :: L.pl (.i 0) :: L.pl (.i 0) :: L.pl (.i 0) :: L.pl (.i 0) :: L.pl (.i 0) :: L.pl (.i 0) :: L.pl (.i 0) :: L.pl (.i 0) :: L.pl (.i 0) :: L.pl (.i 0) :: L.pl (.i 0) :: L.pl (.i 0) :: L.pl (.i 0) :: L.pl (.i 0) :: L.pl (.i 0) :: L.pl (.i 0) :: L.pl (.i 0) :: L.pl (.i 0) :: L.pl (.i 0) :: L.pl (.i 0) :: L.pl (.i 0) :: L.pl (.i 0) :: L.pl (.i 0) :: L.pl (.i 0) :: L.pl (.i 0) :: L.pl (.i 0) :: L.pl (.i 0) :: L.pl (.i 0) :: L.pl (.i 0) :: L.pl (.i 0) :: L.pl (.i 0) :: L.pl (.i 0) :: L.pl (.i 0) :: L.pl (.i 0) :: L.pl (.i 0) :: L.pl (.i 0) :: L.pl (.i 0) :: L.pl (.i 0) :: L.pl (.i 0) :: L.pl (.i 0) :: L.pl (.i 0) :: L.pl (.i 0) :: L.pl (.i 0) :: L.pl (.i 0) :: L.pl (.i 0) :: L.pl (.i 0) :: L.pl (.i 0) :: L.pl (.i 0) :: L.pl (.i 0) :: L.pl (.i 0) :: L.pl (.i 0) :: L.pl (.i 0) :: L.pl (.i 0) :: L.pl (.i 0) :: L.pl (.i 0) :: L.pl (.i 0) :: L.pl (.i 0) :: L.pl (.i 0) :: L.pl (.i 0) :: L.pl (.i 0) :: L.pl (.i 0) :: L.pl (.i 0) :: L.pl (.i 0) :: L.pl (.i 0) :: L.pl (.i 0) :: L.pl (.i 0) :: L.pl (.i 0) :: L.pl (.i 0) :: L.pl (.i 0) :: L.pl (.i 0) :: L.pl (.i 0) :: L.pl (.i 0) :: L.pl (.i 0) :: L.pl (.i 0) :: L.pl (.i 0) :: L.pl (.i 0) :: L.pl (.i 0) :: L.pl (.i 0) :: L.pl (.i 0) :: L.pl (.i 0) :: L.pl (.i 0) :: L.pl (.i 0) :: L.pl (.i 0) :: L.pl (.i 0) :: L.pl (.i 0) :: L.pl (.i 0) :: L.pl (.i 0) :: L.pl (.i 0) :: L.pl (.i 0) :: L.pl (.i 0) :: L.pl (.i 0) :: L.pl (.i 0) :: L.pl (.i 0) :: L.pl (.i 0) :: L.pl (.i 0) :: L.pl (.i 0) :: L.pl (.i 0) :: L.pl (.i 0) :: L.pl (.i 0) :: L.pl (.i 0) :: L.pl (.i 0) :: L.pl (.i 0) :: L.pl (.i 0) :: L.pl (.i 0) :: L.pl (.i 0) :: L.pl (.i 0) :: L.pl (.i 0) :: L.pl (.i 0) :: L.pl (.i 0) :: L.pl (.i 0) :: L.pl (.i 0) :: L.pl (.i 0) :: L.pl (.i 0) :: L.pl (.i 0) :: L.pl (.i 0) :: L.pl (.i 0) :: L.pl (.i 0) :: L.pl (.i 0) :: L.pl (.i 0) :: L.pl (.i 0) :: L.pl (.i 0) :: L.pl (.i 0) :: L.pl (.i 0) :: L.pl (.i 0) :: L.pl (.i 0) :: L.pl (.i 0) :: L.pl (.i 0) :: L.pl (.i 0) :: L.pl (.i 0) :: L.pl (.i 0) :: L.pl (.i 0) :: L.pl (.i 0) :: L.pl (.i 0) :: L.pl (.i 0) :: L.pl (.i 0) :: L.pl (.i 0) :: L.pl (.i 0) :: L.pl (.i 0) :: L.pl (.i 0) :: L.pl (.i 0) :: L.pl (.i 0) :: []) := by kernel_rfl
@[go_sem] theorem ag117 : isAggT Tryd.prog 117 = true := by kernel_rfl
@[go_sem] theorem ae117 {xs ys : List L} (hx : xs.map kindL = ((Kd.int .i64 :: Kd.int .i64 :: Kd.int .i64 :: Kd.int .i64 :: Kd.int .i64 :: Kd.int .i64 :: Kd.int .i64 :: Kd.int .i64 :: Kd.int .i64 :: Kd.int .i64 :: Kd.int .i64 :: Kd.int .i64 :: Kd.int .i64 :: Kd.int .i64 :: Kd.int .i64 :: Kd.int .i64 :: Kd.int .i64 :: Kd.int .i64 :: Kd.int .i64 :: Kd.int .i64 :: Kd.int .i64 :: Kd.int .i64 :: Kd.int .i64 :: Kd.int .i64 :: Kd.int .i64 :: Kd.int .i64 :: Kd.int .i64 :: Kd.int .i64 :: Kd.int .i64 :: Kd.int .i64 :: Kd.int .i64 :: Kd.int .i64 :: Kd.int .i64 :: Kd.int .i64 :: Kd.int .i64 :: Kd.int .i64 :: Kd.int .i64 :: Kd.int .i64 :: Kd.int .i64 :: Kd.int .i64 :: Kd.int .i64 :: Kd.int .i64 :: Kd.int .i64 :: Kd.int .i64 :: Kd.int .i64 :: Kd.int .i64 :: Kd.int .i64 :: Kd.int .i64 :: Kd.int .i64 :: Kd.int .i64 :: Kd.int .i64 :: Kd.int .i64 :: Kd.int .i64 :: Kd.int .i64 :: Kd.int .i64 :: Kd.int .i64 :: Kd.int .i64 :: Kd.int .i64 :: Kd.int .i64 :: Kd.int .i64 :: Kd.int .i64 :: Kd.int .i64 :: Kd.int .i64 :: Kd.int .i64 :: Kd.int .i64 :: Kd.int .i64 :: Kd.int .i64 :: Kd.int .i64 :: Kd.int .i64 :: Kd.int .i64 :: Kd.int .i64 :: Kd.int .i64 :: Kd.int .i64 :: Kd.int .i64 :: Kd.int .i64 :: Kd.int .i64 :: Kd.int .i64 :: Kd.int .i64 :: Kd.int .i64 :: Kd.int .i64 :: Kd.int .i64 :: Kd.int .i64 :: Kd.int .i64 :: Kd.int .i64 :: Kd.int .i64 :: Kd.int .i64 :: Kd.int .i64 :: Kd.int .i64 :: Kd.int .i64 :: Kd.int .i64 :: Kd.int .i64 :: Kd.int .i64 :: Kd.int .i64 :: Kd.int .i64 :: Kd.int .i64 :: Kd.int .i64 :: Kd.int .i64 :: Kd.int .i64 :: Kd.int .i64 :: Kd.int .i64 :: Kd.int .i64 :: Kd.int .i64 :: Kd.int .i64 :: Kd.int .i64 :: Kd.int .i64 :: Kd.int .i64 :: Kd.int .i64 :: Kd.int .i64 :: Kd.int .i64 :: Kd.int .i64 :: Kd.int .i64 :: Kd.int .i64 :: Kd.int .i64 :: Kd.int .i64 :: Kd.int .i64 :: Kd.int .i64 :: Kd.int .i64 :: Kd.int .i64 :: Kd.int .i64 :: Kd.int .i64 :: Kd.int .i64 :: Kd.int .i64 :: Kd.int .i64 :: Kd.int .i64 :: Kd.int .i64 :: Kd.int .i64 :: Kd.int .i64 :: Kd.int .i64 :: Kd.int .i64 :: Kd.int .i64 :: Kd.int .i64 :: Kd.int .i64 :: Kd.int .i64 :: Kd.int .i64 :: Kd.int .i64 :: Kd.int .i64 :: Kd.int .i64 :: Kd.int .i64 :: Kd.int .i64 :: Kd.int .i64 :: Kd.int .i64 :: Kd.int .i64 :: Kd.int .i64 :: Kd.int .i64 :: Kd.int .i64 :: Kd.int .i64 :: Kd.int .i64 :: Kd.int .i64 :: Kd.int .i64 :: Kd.int .i64 :: Kd.int .i64 :: Kd.int .i64 :: Kd.int .i64 :: Kd.int .i64 :: Kd.int .i64 :: Kd.int .i64 :: Kd.int .i64 :: Kd.int .i64 :: Kd.int .i64 :: Kd.int .i64 :: [] : List Kd)).map some) (hy : ys.map kindL = ((Kd.int .i64 :: Kd.int .i64 :: Kd.int .i64 :: Kd.int .i64 :: Kd.int .i64 :: Kd.int .i64 :: Kd.int .i64 :: Kd.int .i64 :: Kd.int .i64 :: Kd.int .i64 :: Kd.int .i64 :: Kd.int .i64 :: Kd.int .i64 :: Kd.int .i64 :: Kd.int .i64 :: Kd.int .i64 :: Kd.int .i64 :: Kd.int .i64 :: Kd.int .i64 :: Kd.int .i64 :: Kd.int .i64 :: Kd.int .i64 :: Kd.int .i64 :: Kd.int .i64 :: Kd.int .i64 :: Kd.int .i64 :: Kd.int .i64 :: Kd.int .i64 :: Kd.int .i64 :: Kd.int .i64 :: Kd.int .i64 :: Kd.int .i64 :: Kd.int .i64 :: Kd.int .i64 :: Kd.int .i64 :: Kd.int .i64 :: Kd.int .i64 :: Kd.int .i64 :: Kd.int .i64 :: Kd.int .i64 :: Kd.int .i64 :: Kd.int .i64 :: Kd.int .i64 :: Kd.int .i64 :: Kd.int .i64 :: Kd.int .i64 :: Kd.int .i64 :: Kd.int .i64 :: Kd.int .i64 :: Kd.int .i64 :: Kd.int .i64 :: Kd.int .i64 :: Kd.int .i64 :: Kd.int .i64 :: Kd.int .i64 :: Kd.int .i64 :: Kd.int .i64 :: Kd.int .i64 :: Kd.int .i64 :: Kd.int .i64 :: Kd.int .i64 :: Kd.int .i64 :: Kd.int .i64 :: Kd.int .i64 :: Kd.int .i64 :: Kd.int .i64 :: Kd.int .i64 :: Kd.int .i64 :: Kd.int .i64 :: Kd.int .i64 :: Kd.int .i64 :: Kd.int .i64 :: Kd.int .i64 :: Kd.int .i64 :: Kd.int .i64 :: Kd.int .i64 :: Kd.int .i64 :: Kd.int .i64 :: Kd.int .i64 :: Kd.int .i64 :: Kd.int .i64 :: Kd.int .i64 :: Kd.int .i64 :: Kd.int .i64 :: Kd.int .i64 :: Kd.int .i64 :: Kd.int .i64 :: Kd.int .i64 :: Kd.int .i64 :: Kd.int .i64 :: Kd.int .i64 :: Kd.int .i64 :: Kd.int .i64 :: Kd.int .i64 :: Kd.int .i64 :: Kd.int .i64 :: Kd.int .i64 :: Kd.int .i64 :: Kd.int .i64 :: Kd.int .i64 :: Kd.int .i64 :: Kd.int .i64 :: Kd.int .i64 :: Kd.int .i64 :: Kd.int .i64 :: Kd.int .i64 :: Kd.int .i64 :: Kd.int .i64 :: Kd.int .i64 :: Kd.int .i64 :: Kd.int .i64 :: Kd.int .i64 :: Kd.int .i64 :: Kd.int .i64 :: Kd.int .i64 :: Kd.int .i64 :: Kd.int .i64 :: Kd.int .i64 :: Kd.int .i64 :: Kd.int .i64 :: Kd.int .i64 :: Kd.int .i64 :: Kd.int .i64 :: Kd.int .i64 :: Kd.int .i64 :: Kd.int .i64 :: Kd.int .i64 :: Kd.int .i64 :: Kd.int .i64 :: Kd.int .i64 :: Kd.int .i64 :: Kd.int .i64 :: Kd.int .i64 :: Kd.int .i64 :: Kd.int .i64 :: Kd.int .i64 :: Kd.int .i64 :: Kd.int .i64 :: Kd.int .i64 :: Kd.int .i64 :: Kd.int .i64 :: Kd.int .i64 :: Kd.int .i64 :: Kd.int .i64 :: Kd.int .i64 :: Kd.int .i64 :: Kd.int .i64 :: Kd.int .i64 :: Kd.int .i64 :: Kd.int .i64 :: Kd.int .i64 :: Kd.int .i64 :: Kd.int .i64 :: Kd.int .i64 :: Kd.int .i64 :: Kd.int .i64 :: Kd.int .i64 :: Kd.int .i64 :: Kd.int .i64 :: Kd.int .i64 :: [] : List Kd)).map some) : aggEq Tryd.prog 117 xs ys = some (eqC xs ys) := aggEq_of (by kernel_rfl) (by kernel_rfl) hx hy
@[go_sem] theorem sz118 : Tryd.prog.cellsOf 118 = 4 := by kernel_rfl
@[go_sem] theorem bo118 : Tryd.prog.bytesOf 118 = 16 := by kernel_rfl
attribute [go_sem] Tryd.underlying118
@[go_sem] theorem zc118 : zeroC Tryd.prog 118 = some (L.pl (.u32 0) :: L.pl (.u32 0) :: L.pl (.u32 0) :: L.pl (.u32 0) :: []) := by kernel_rfl
@[go_sem] theorem ag118 : isAggT Tryd.prog 118 = true := by kernel_rfl
@[go_sem] theorem ae118 {xs ys : List L} (hx : xs.map kindL = ((Kd.int .u32 :: Kd.int .u32 :: Kd.int .u32 :: Kd.int .u32 :: [] : List Kd)).map some) (hy : ys.map kindL = ((Kd.int .u32 :: Kd.int .u32 :: Kd.int .u32 :: Kd.int .u32 :: [] : List Kd)).map some) : aggEq Tryd.prog 118 xs ys = some (eqC xs ys) := aggEq_of (by kernel_rfl) (by kernel_rfl) hx hy
@[go_sem] theorem sz119 : Tryd.prog.cellsOf 119 = 16 := by kernel_rfl
@[go_sem] theorem bo119 : Tryd.prog.bytesOf 119 = 64 := by kernel_rfl
attribute [go_sem] Tryd.underlying119
@[go_sem] theorem zc119 : zeroC Tryd.prog 119 = some (L.pl (.u32 0) :: L.pl (.u32 0) :: L.pl (.u32 0) :: L.pl (.u32 0) :: L.pl (.u32 0) :: L.pl (.u32 0) :: L.pl (.u32 0) :: L.pl (.u32 0) :: L.pl (.u32 0) :: L.pl (.u32 0) :: L.pl (.u32 0) :: L.pl (.u32 0) :: L.pl (.u32 0) :: L.pl (.u32 0) :: L.pl (.u32 0) :: L.pl (.u32 0) :: []) := by kernel_rfl
@[go_sem] theorem ag119 : isAggT Tryd.prog 119 = true := by kernel_rfl
@[go_sem] theorem ae119 {xs ys : List L} (hx : xs.map kindL = ((Kd.int .u32 :: Kd.int .u32 :: Kd.int .u32 :: Kd.int .u32 :: Kd.int .u32 :: Kd.int .u32 :: Kd.int .u32 :: Kd.int .u32 :: Kd.int .u32 :: Kd.int .u32 :: Kd.int .u32 :: Kd.int .u32 :: Kd.int .u32 :: Kd.int .u32 :: Kd.int .u32 :: Kd.int .u32 :: [] : List Kd)).map some) (hy : ys.map kindL = ((Kd.int .u32 :: Kd.int .u32 :: Kd.int .u32 :: Kd.int .u32 :: Kd.int .u32 :: Kd.int .u32 :: Kd.int .u32 :: Kd.int .u32 :: Kd.int .u32 :: Kd.int .u32 :: Kd.int .u32 :: Kd.int .u32 :: Kd.int .u32 :: Kd.int .u32 :: Kd.int .u32 :: Kd.int .u32 :: [] : List Kd)).map some) : aggEq Tryd.prog 119 xs ys = some (eqC xs ys) := aggEq_of (by kernel_rfl) (by kernel_rfl) hx hy
@[go_sem] theorem sz125 : Tryd.prog.cellsOf 125 = 1 := by kernel_rfl
@[go_sem] theorem bo125 : Tryd.prog.bytesOf 125 = 24 := by kernel_rfl
attribute [go_sem] Tryd.underlying125
@[go_sem] theorem zc125 : zeroC Tryd.prog 125 = some (L.pl (.R true 1 []) :: []) := by kernel_rfl
@[go_sem] theorem sz135 : Tryd.prog.cellsOf 135 = 5 := by kernel_rfl
@[go_sem] theorem bo135 : Tryd.prog.bytesOf 135 = 40 := by kernel_rfl
attribute [go_sem] Tryd.underlying135
@[go_sem] theorem zc135 : zeroC Tryd.prog 135 = some (L.pl (.u64 0) :: L.pl (.u64 0) :: L.pl (.u64 0) :: L.pl (.u64 0) :: L.pl (.u64 0) :: []) := by kernel_rfl
@[go_sem] theorem ag135 : isAggT Tryd.prog 135 = true := by kernel_rfl
@[go_sem] theorem ae135 {xs ys : List L} (hx : xs.map kindL = ((Kd.int .u64 :: Kd.int .u64 :: Kd.int .u64 :: Kd.int .u64 :: Kd.int .u64 :: [] : List Kd)).map some) (hy : ys.map kindL = ((Kd.int .u64 :: Kd.int .u64 :: Kd.int .u64 :: Kd.int .u64 :: Kd.int .u64 :: [] : List Kd)).map some) : aggEq Tryd.prog 135 xs ys = some (eqC xs ys) := aggEq_of (by kernel_rfl) (by kernel_rfl) hx hy
@[go_sem] theorem sz136 : Tryd.prog.cellsOf 136 = 5 := by kernel_rfl
@[go_sem] theorem bo136 : Tryd.prog.bytesOf 136 = 40 := by kernel_rfl
attribute [go_sem] Tryd.underlying136
@[go_sem] theorem zc136 : zeroC Tryd.prog 136 = some (L.pl (.u64 0) :: L.pl (.u64 0) :: L.pl (.u64 0) :: L.pl (.u64 0) :: L.pl (.u64 0) :: []) := by kernel_rfl
@[go_sem] theorem ag136 : isAggT Tryd.prog 136 = true := by kernel_rfl
@[go_sem] theorem ae136 {xs ys : List L} (hx : xs.map kindL = ((Kd.int .u64 :: Kd.int .u64 :: Kd.int .u64 :: Kd.int .u64 :: Kd.int .u64 :: [] : List Kd)).map some) (hy : ys.map kindL = ((Kd.int .u64 :: Kd.int .u64 :: Kd.int .u64 :: Kd.int .u64 :: Kd.int .u64 :: [] : List Kd)).map some) : aggEq Tryd.prog 136 xs ys = some (eqC xs ys) := aggEq_of (by kernel_rfl) (by kernel_rfl) hx hy

@[go_sem] theorem sz103 : Tryd.prog.cellsOf 103 = 1 := by kernel_rfl
@[go_sem] theorem bo103 : Tryd.prog.bytesOf 103 = 8 := by kernel_rfl
attribute [go_sem] Tryd.underlying103
end Go.Sy
