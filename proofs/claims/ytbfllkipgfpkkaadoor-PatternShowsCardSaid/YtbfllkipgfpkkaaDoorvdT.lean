/- Facts on the types of the program. -/
import Derived.Test.YtbfllkipgfpkkaaDoorProg
import Derived.Test.YtbfllkipgfpkkaaDoorvE3
import Derived.KernelRfl
set_option linter.unusedVariables false
set_option linter.unusedSimpArgs false
namespace Go.Sy
open Go.Proofs
attribute [local irreducible] atCall HT runOps runD onC onE onO onG goV goA goS onSt onGuard
theorem mixed : Tryd.prog.follows .mixedOrders = true := by kernel_rfl
@[go_sem] theorem sz3 : Tryd.prog.cellsOf 3 = 1 := by kernel_rfl
@[go_sem] theorem bo3 : Tryd.prog.bytesOf 3 = 8 := by kernel_rfl
attribute [go_sem] Tryd.underlying3
@[go_sem] theorem zc3 : zeroC Tryd.prog 3 = some (L.pl (.i 0) :: []) := by kernel_rfl
@[go_sem] theorem sz4 : Tryd.prog.cellsOf 4 = 1 := by kernel_rfl
@[go_sem] theorem bo4 : Tryd.prog.bytesOf 4 = 1 := by kernel_rfl
attribute [go_sem] Tryd.underlying4
@[go_sem] theorem zc4 : zeroC Tryd.prog 4 = some (L.pl (.b false) :: []) := by kernel_rfl
@[go_sem] theorem sz5 : Tryd.prog.cellsOf 5 = 1 := by kernel_rfl
@[go_sem] theorem bo5 : Tryd.prog.bytesOf 5 = 1 := by kernel_rfl
attribute [go_sem] Tryd.underlying5
@[go_sem] theorem zc5 : zeroC Tryd.prog 5 = some (L.pl (.u8 0) :: []) := by kernel_rfl
@[go_sem] theorem sz9 : Tryd.prog.cellsOf 9 = 1 := by kernel_rfl
@[go_sem] theorem bo9 : Tryd.prog.bytesOf 9 = 16 := by kernel_rfl
attribute [go_sem] Tryd.underlying9
@[go_sem] theorem zc9 : zeroC Tryd.prog 9 = some (L.pl (.str []) :: []) := by kernel_rfl
@[go_sem] theorem sz21 : Tryd.prog.cellsOf 21 = 1 := by kernel_rfl
@[go_sem] theorem bo21 : Tryd.prog.bytesOf 21 = 4 := by kernel_rfl
attribute [go_sem] Tryd.underlying21
@[go_sem] theorem sz22 : Tryd.prog.cellsOf 22 = 1 := by kernel_rfl
@[go_sem] theorem bo22 : Tryd.prog.bytesOf 22 = 24 := by kernel_rfl
attribute [go_sem] Tryd.underlying22
@[go_sem] theorem zc22 : zeroC Tryd.prog 22 = some (L.pl (.R true 1 []) :: []) := by kernel_rfl
@[go_sem] theorem sz23 : Tryd.prog.cellsOf 23 = 2 := by kernel_rfl
@[go_sem] theorem bo23 : Tryd.prog.bytesOf 23 = 48 := by kernel_rfl
attribute [go_sem] Tryd.underlying23
@[go_sem] theorem zc23 : zeroC Tryd.prog 23 = some (L.pl (.R true 1 []) :: L.pl (.R true 1 []) :: []) := by kernel_rfl
@[go_sem] theorem ag23 : isAggT Tryd.prog 23 = true := by kernel_rfl
@[go_sem] theorem sz24 : Tryd.prog.cellsOf 24 = 1 := by kernel_rfl
@[go_sem] theorem bo24 : Tryd.prog.bytesOf 24 = 24 := by kernel_rfl
attribute [go_sem] Tryd.underlying24
@[go_sem] theorem zc24 : zeroC Tryd.prog 24 = some (L.pl (.R true 1 []) :: []) := by kernel_rfl
@[go_sem] theorem sz25 : Tryd.prog.cellsOf 25 = 6 := by kernel_rfl
@[go_sem] theorem bo25 : Tryd.prog.bytesOf 25 = 120 := by kernel_rfl
attribute [go_sem] Tryd.underlying25
@[go_sem] theorem zc25 : zeroC Tryd.prog 25 = some (L.pl (.str []) :: L.pl (.b false) :: L.pl (.R true 1 []) :: L.pl (.R true 1 []) :: L.pl (.R true 1 []) :: L.pl (.R true 1 []) :: []) := by kernel_rfl
@[go_sem] theorem ag25 : isAggT Tryd.prog 25 = true := by kernel_rfl
@[go_sem] theorem sz26 : Tryd.prog.cellsOf 26 = 6 := by kernel_rfl
@[go_sem] theorem bo26 : Tryd.prog.bytesOf 26 = 120 := by kernel_rfl
attribute [go_sem] Tryd.underlying26
@[go_sem] theorem zc26 : zeroC Tryd.prog 26 = some (L.pl (.str []) :: L.pl (.b false) :: L.pl (.R true 1 []) :: L.pl (.R true 1 []) :: L.pl (.R true 1 []) :: L.pl (.R true 1 []) :: []) := by kernel_rfl
@[go_sem] theorem ag26 : isAggT Tryd.prog 26 = true := by kernel_rfl
@[go_sem] theorem sz27 : Tryd.prog.cellsOf 27 = 1 := by kernel_rfl
@[go_sem] theorem bo27 : Tryd.prog.bytesOf 27 = 8 := by kernel_rfl
attribute [go_sem] Tryd.underlying27
@[go_sem] theorem zc27 : zeroC Tryd.prog 27 = some (L.pl (.i 0) :: []) := by kernel_rfl
@[go_sem] theorem sz40 : Tryd.prog.cellsOf 40 = 1 := by kernel_rfl
@[go_sem] theorem bo40 : Tryd.prog.bytesOf 40 = 24 := by kernel_rfl
attribute [go_sem] Tryd.underlying40
@[go_sem] theorem zc40 : zeroC Tryd.prog 40 = some (L.pl (.R true 1 []) :: []) := by kernel_rfl
@[go_sem] theorem sz50 : Tryd.prog.cellsOf 50 = 1 := by kernel_rfl
@[go_sem] theorem bo50 : Tryd.prog.bytesOf 50 = 24 := by kernel_rfl
attribute [go_sem] Tryd.underlying50
@[go_sem] theorem zc50 : zeroC Tryd.prog 50 = some (L.pl (.R true 1 []) :: []) := by kernel_rfl
@[go_sem] theorem sz54 : Tryd.prog.cellsOf 54 = 2 := by kernel_rfl
@[go_sem] theorem bo54 : Tryd.prog.bytesOf 54 = 32 := by kernel_rfl
attribute [go_sem] Tryd.underlying54
@[go_sem] theorem sz55 : Tryd.prog.cellsOf 55 = 2 := by kernel_rfl
@[go_sem] theorem bo55 : Tryd.prog.bytesOf 55 = 32 := by kernel_rfl
attribute [go_sem] Tryd.underlying55
@[go_sem] theorem sz64 : Tryd.prog.cellsOf 64 = 256 := by kernel_rfl
@[go_sem] theorem bo64 : Tryd.prog.bytesOf 64 = 256 := by kernel_rfl
attribute [go_sem] Tryd.underlying64
@[go_sem] theorem zc64 : zeroC Tryd.prog 64 = some (bytesC (List.replicate 256 0)) := by kernel_rfl
@[go_sem] theorem ag64 : isAggT Tryd.prog 64 = true := by kernel_rfl
@[go_sem] theorem sz69 : Tryd.prog.cellsOf 69 = 1 := by kernel_rfl
@[go_sem] theorem bo69 : Tryd.prog.bytesOf 69 = 8 := by kernel_rfl
attribute [go_sem] Tryd.underlying69
@[go_sem] theorem zc69 : zeroC Tryd.prog 69 = some (L.pl (.u64 0) :: []) := by kernel_rfl
@[go_sem] theorem sz74 : Tryd.prog.cellsOf 74 = 1 := by kernel_rfl
@[go_sem] theorem bo74 : Tryd.prog.bytesOf 74 = 24 := by kernel_rfl
attribute [go_sem] Tryd.underlying74
@[go_sem] theorem zc74 : zeroC Tryd.prog 74 = some (L.pl (.R true 1 []) :: []) := by kernel_rfl
@[go_sem] theorem sz75 : Tryd.prog.cellsOf 75 = 2 := by kernel_rfl
@[go_sem] theorem bo75 : Tryd.prog.bytesOf 75 = 16 := by kernel_rfl
attribute [go_sem] Tryd.underlying75
@[go_sem] theorem zc75 : zeroC Tryd.prog 75 = some (L.pl (.i 0) :: L.pl (.i 0) :: []) := by kernel_rfl
@[go_sem] theorem ag75 : isAggT Tryd.prog 75 = true := by kernel_rfl
@[go_sem] theorem sz76 : Tryd.prog.cellsOf 76 = 2 := by kernel_rfl
@[go_sem] theorem bo76 : Tryd.prog.bytesOf 76 = 16 := by kernel_rfl
attribute [go_sem] Tryd.underlying76
@[go_sem] theorem zc76 : zeroC Tryd.prog 76 = some (L.pl (.i 0) :: L.pl (.i 0) :: []) := by kernel_rfl
@[go_sem] theorem ag76 : isAggT Tryd.prog 76 = true := by kernel_rfl
@[go_sem] theorem sz77 : Tryd.prog.cellsOf 77 = 1 := by kernel_rfl
@[go_sem] theorem bo77 : Tryd.prog.bytesOf 77 = 4 := by kernel_rfl
attribute [go_sem] Tryd.underlying77
@[go_sem] theorem zc77 : zeroC Tryd.prog 77 = some (L.pl (.u32 0) :: []) := by kernel_rfl
@[go_sem] theorem sz85 : Tryd.prog.cellsOf 85 = 1 := by kernel_rfl
@[go_sem] theorem bo85 : Tryd.prog.bytesOf 85 = 24 := by kernel_rfl
attribute [go_sem] Tryd.underlying85
@[go_sem] theorem zc85 : zeroC Tryd.prog 85 = some (L.pl (.R true 1 []) :: []) := by kernel_rfl
@[go_sem] theorem sz86 : Tryd.prog.cellsOf 86 = 1 := by kernel_rfl
@[go_sem] theorem bo86 : Tryd.prog.bytesOf 86 = 24 := by kernel_rfl
attribute [go_sem] Tryd.underlying86
@[go_sem] theorem zc86 : zeroC Tryd.prog 86 = some (L.pl (.R true 1 []) :: []) := by kernel_rfl
@[go_sem] theorem sz87 : Tryd.prog.cellsOf 87 = 3 := by kernel_rfl
@[go_sem] theorem bo87 : Tryd.prog.bytesOf 87 = 56 := by kernel_rfl
attribute [go_sem] Tryd.underlying87
@[go_sem] theorem zc87 : zeroC Tryd.prog 87 = some (L.pl (.R true 1 []) :: L.pl (.R true 1 []) :: L.pl (.i 0) :: []) := by kernel_rfl
@[go_sem] theorem ag87 : isAggT Tryd.prog 87 = true := by kernel_rfl
@[go_sem] theorem sz88 : Tryd.prog.cellsOf 88 = 3 := by kernel_rfl
@[go_sem] theorem bo88 : Tryd.prog.bytesOf 88 = 56 := by kernel_rfl
attribute [go_sem] Tryd.underlying88
@[go_sem] theorem zc88 : zeroC Tryd.prog 88 = some (L.pl (.R true 1 []) :: L.pl (.R true 1 []) :: L.pl (.i 0) :: []) := by kernel_rfl
@[go_sem] theorem ag88 : isAggT Tryd.prog 88 = true := by kernel_rfl
@[go_sem] theorem sz89 : Tryd.prog.cellsOf 89 = 1 := by kernel_rfl
@[go_sem] theorem bo89 : Tryd.prog.bytesOf 89 = 2 := by kernel_rfl
attribute [go_sem] Tryd.underlying89
@[go_sem] theorem sz90 : Tryd.prog.cellsOf 90 = 3 := by kernel_rfl
@[go_sem] theorem bo90 : Tryd.prog.bytesOf 90 = 6 := by kernel_rfl
attribute [go_sem] Tryd.underlying90
@[go_sem] theorem sz91 : Tryd.prog.cellsOf 91 = 3 := by kernel_rfl
@[go_sem] theorem bo91 : Tryd.prog.bytesOf 91 = 6 := by kernel_rfl
attribute [go_sem] Tryd.underlying91
@[go_sem] theorem sz93 : Tryd.prog.cellsOf 93 = 3 := by kernel_rfl
@[go_sem] theorem bo93 : Tryd.prog.bytesOf 93 = 12 := by kernel_rfl
attribute [go_sem] Tryd.underlying93
@[go_sem] theorem zc93 : zeroC Tryd.prog 93 = some (L.pl (.u32 0) :: L.pl (.u32 0) :: L.pl (.u32 0) :: []) := by kernel_rfl
@[go_sem] theorem ag93 : isAggT Tryd.prog 93 = true := by kernel_rfl
@[go_sem] theorem sz94 : Tryd.prog.cellsOf 94 = 3 := by kernel_rfl
@[go_sem] theorem bo94 : Tryd.prog.bytesOf 94 = 12 := by kernel_rfl
attribute [go_sem] Tryd.underlying94
@[go_sem] theorem zc94 : zeroC Tryd.prog 94 = some (L.pl (.u32 0) :: L.pl (.u32 0) :: L.pl (.u32 0) :: []) := by kernel_rfl
@[go_sem] theorem ag94 : isAggT Tryd.prog 94 = true := by kernel_rfl
@[go_sem] theorem sz96 : Tryd.prog.cellsOf 96 = 2 := by kernel_rfl
@[go_sem] theorem bo96 : Tryd.prog.bytesOf 96 = 2 := by kernel_rfl
attribute [go_sem] Tryd.underlying96
@[go_sem] theorem zc96 : zeroC Tryd.prog 96 = some (L.pl (.u8 0) :: L.pl (.u8 0) :: []) := by kernel_rfl
@[go_sem] theorem ag96 : isAggT Tryd.prog 96 = true := by kernel_rfl
@[go_sem] theorem sz97 : Tryd.prog.cellsOf 97 = 2 := by kernel_rfl
@[go_sem] theorem bo97 : Tryd.prog.bytesOf 97 = 2 := by kernel_rfl
attribute [go_sem] Tryd.underlying97
@[go_sem] theorem zc97 : zeroC Tryd.prog 97 = some (L.pl (.u8 0) :: L.pl (.u8 0) :: []) := by kernel_rfl
@[go_sem] theorem ag97 : isAggT Tryd.prog 97 = true := by kernel_rfl
@[go_sem] theorem sz98 : Tryd.prog.cellsOf 98 = 32 := by kernel_rfl
@[go_sem] theorem bo98 : Tryd.prog.bytesOf 98 = 32 := by kernel_rfl
attribute [go_sem] Tryd.underlying98
@[go_sem] theorem zc98 : zeroC Tryd.prog 98 = some (L.pl (.u8 0) :: L.pl (.u8 0) :: L.pl (.u8 0) :: L.pl (.u8 0) :: L.pl (.u8 0) :: L.pl (.u8 0) :: L.pl (.u8 0) :: L.pl (.u8 0) :: L.pl (.u8 0) :: L.pl (.u8 0) :: L.pl (.u8 0) :: L.pl (.u8 0) :: L.pl (.u8 0) :: L.pl (.u8 0) :: L.pl (.u8 0) :: L.pl (.u8 0) :: L.pl (.u8 0) :: L.pl (.u8 0) :: L.pl (.u8 0) :: L.pl (.u8 0) :: L.pl (.u8 0) :: L.pl (.u8 0) :: L.pl (.u8 0) :: L.pl (.u8 0) :: L.pl (.u8 0) :: L.pl (.u8 0) :: L.pl (.u8 0) :: L.pl (.u8 0) :: L.pl (.u8 0) :: L.pl (.u8 0) :: L.pl (.u8 0) :: L.pl (.u8 0) :: []) := by kernel_rfl
@[go_sem] theorem ag98 : isAggT Tryd.prog 98 = true := by kernel_rfl
end Go.Sy

