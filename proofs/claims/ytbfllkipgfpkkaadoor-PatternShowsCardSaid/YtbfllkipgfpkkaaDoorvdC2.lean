/- Walks: counting and finding a byte, by the library's own words; texts of patterns, parted. -/
import Derived.Test.YtbfllkipgfpkkaaDoorvdC1
set_option linter.unusedVariables false
set_option linter.unusedSimpArgs false
namespace Go.Sy
open Go.Proofs
attribute [local irreducible] atCall HT runOps runD onC onE onO onG goV goA goS onSt onGuard
set_option maxHeartbeats 1600000 in
set_option maxRecDepth 100000 in
theorem count1_ (s : List UInt8) (c : UInt8) :
 Ct Tryd.prog 35 [.w (.one (.pl (.str s))), .w (.one (.pl (.str [c])))] (fun v m => v = .w (.one (.pl (.i ((Lib.countByte s c : Nat) : Int))))) := by
 have F0 := trivial
 have cw0 := now_count s c
 have zF : FG [7, 8, 9, 10, 11, 12, 13, 14, 15, 16, 17, 18, 19, 20, 21, 22, 23, 24, 25, 26, 27, 28, 29, 30, 31, 32, 33] := trivial
 exact Ct.run Tryd.func35 rfl Tryd.ntmps35 Tryd.results35
theorem gdb0 (a : UInt8) (l : List UInt8) : (a :: l).getD 0 0 = a := rfl
set_option maxHeartbeats 1600000 in
set_option maxRecDepth 100000 in
theorem indexb_ (s : List UInt8) (c : UInt8) :
 Ct Tryd.prog 40 [.w (.one (.pl (.str s))), .w (.one (.pl (.u8 c)))] (fun v m => v = .w (.one (.pl (.i (Lib.indexByte s c))))) := by
 have F0 := trivial
 have cw0 := now_indexb s c
 have zF : FG [5, 6, 7] := trivial
 exact Ct.run Tryd.func40 rfl Tryd.ntmps40 Tryd.results40
set_option maxHeartbeats 1600000 in
set_option maxRecDepth 100000 in
theorem index1_n (s : List UInt8) (c : UInt8) (h : ¬ [c] = s) :
 Ct Tryd.prog 30 [.w (.one (.pl (.str s))), .w (.one (.pl (.str [c])))] (fun v m => v = .w (.one (.pl (.i (Lib.indexByte s c))))) := by
 have F0 := And.intro h <| gdb0
 have cv0 := Ct.cv (indexb_ s c)
 have zF : FG [14, 15, 16, 17, 18, 19, 20, 21, 22, 23, 24, 25, 26, 27, 28, 29, 30, 31, 32, 33, 34, 35, 36, 37, 38, 39, 40, 41, 42, 43, 44, 45, 46, 47, 48, 49, 50, 51, 52, 53, 54, 55, 56, 57, 58, 59, 60, 61, 62, 63, 64, 65, 66, 67, 68, 69, 70, 71, 72, 73, 74, 75, 76, 77, 78, 79, 80, 81, 82, 83, 84, 85, 86, 87, 88, 89, 90, 91, 92, 93, 94, 95, 96, 97, 98, 99, 100, 101, 102, 103, 104, 105, 106, 107, 108, 109, 110, 111, 112, 113, 114, 115, 116, 117, 118, 119, 120, 121, 122, 123, 124, 125, 126, 127, 128, 129, 130, 131, 132, 133, 134, 135, 136, 137, 138, 139, 140, 141, 142] := trivial
 exact Ct.run Tryd.func30 rfl Tryd.ntmps30 Tryd.results30
set_option maxHeartbeats 1600000 in
set_option maxRecDepth 100000 in
theorem index1_e (c : UInt8) :
 Ct Tryd.prog 30 [.w (.one (.pl (.str [c]))), .w (.one (.pl (.str [c])))] (fun v m => v = .w (.one (.pl (.i 0)))) := by
 have F0 := trivial
 have zF : FG [14, 15, 16, 17, 18, 19, 20, 21, 22, 23, 24, 25, 26, 27, 28, 29, 30, 31, 32, 33, 34, 35, 36, 37, 38, 39, 40, 41, 42, 43, 44, 45, 46, 47, 48, 49, 50, 51, 52, 53, 54, 55, 56, 57, 58, 59, 60, 61, 62, 63, 64, 65, 66, 67, 68, 69, 70, 71, 72, 73, 74, 75, 76, 77, 78, 79, 80, 81, 82, 83, 84, 85, 86, 87, 88, 89, 90, 91, 92, 93, 94, 95, 96, 97, 98, 99, 100, 101, 102, 103, 104, 105, 106, 107, 108, 109, 110, 111, 112, 113, 114, 115, 116, 117, 118, 119, 120, 121, 122, 123, 124, 125, 126, 127, 128, 129, 130, 131, 132, 133, 134, 135, 136, 137, 138, 139, 140, 141, 142] := trivial
 exact Ct.run Tryd.func30 rfl Tryd.ntmps30 Tryd.results30
theorem index1_ (s : List UInt8) (c : UInt8) : Ct Tryd.prog 30 [.w (.one (.pl (.str s))), .w (.one (.pl (.str [c])))] (fun v m => v = .w (.one (.pl (.i (Lib.indexByte s c))))) := by
 by_cases h : [c] = s
 · subst h
   have e : Lib.indexByte [c] c = 0 := by simp [Lib.indexByte]
   rw [e]; exact index1_e c
 · exact index1_n s c h
set_option maxHeartbeats 1600000 in
set_option maxRecDepth 100000 in
theorem indexs_ (s : List UInt8) (c : UInt8) :
 Ct Tryd.prog 21 [.w (.one (.pl (.str s))), .w (.one (.pl (.str [c])))] (fun v m => v = .w (.one (.pl (.i (Lib.indexByte s c))))) := by
 have F0 := trivial
 have cv0 := Ct.cv (index1_ s c)
 have zF : FG [5, 6, 7] := trivial
 exact Ct.run Tryd.func21 rfl Tryd.ntmps21 Tryd.results21
end Go.Sy

