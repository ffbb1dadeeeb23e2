/- Walks: texts of patterns, by name; trimmed and parted. -/
import Derived.Test.YtbfllkipgfpkkaaDoorvdC2
import Derived.Test.YtbfllkipgfpkkaaDoorvdF1
set_option linter.unusedVariables false
set_option linter.unusedSimpArgs false
namespace Go.Sy
open Go.Proofs
attribute [local irreducible] atCall HT runOps runD onC onE onO onG goV goA goS onSt onGuard
set_option maxHeartbeats 1600000 in
set_option maxRecDepth 100000 in
theorem pt_NN  :
 Ct Tryd.prog 14 [.w (.one (.pl (.str [78, 78])))] (fun v m => v = .w (.one (.pl (.str [59, 59, 32, 101, 59, 32, 101, 32, 101, 101, 59])))) := by
 have F0 := trivial
 have zF : FG [4, 5, 6, 7, 8, 9, 10, 11, 12, 13, 14, 15, 16, 17] := trivial
 exact Ct.run Tryd.func14 rfl Tryd.ntmps14 Tryd.results14
set_option maxHeartbeats 1600000 in
set_option maxRecDepth 100000 in
theorem hsx_NN  :
 Ct Tryd.prog 36 [.w (.one (.pl (.str [59, 59, 32, 101, 59, 32, 101, 32, 101, 101, 59]))), .w (.one (.pl (.str [59])))] (fun v m => v = .w (.one (.pl (.b true)))) := by
 have F0 := trivial
 have zF : FG [5, 6, 7, 8, 9, 10, 11, 12, 13, 14, 15, 16, 17, 18, 19, 20] := trivial
 exact Ct.run Tryd.func36 rfl Tryd.ntmps36 Tryd.results36
set_option maxHeartbeats 1600000 in
set_option maxRecDepth 100000 in
theorem tsx_NN  :
 Ct Tryd.prog 26 [.w (.one (.pl (.str [59, 59, 32, 101, 59, 32, 101, 32, 101, 101, 59]))), .w (.one (.pl (.str [59])))] (fun v m => v = .w (.one (.pl (.str [59, 59, 32, 101, 59, 32, 101, 32, 101, 101])))) := by
 have F0 := trivial
 have cv0 := Ct.cv (hsx_NN)
 have zF : FG [5, 6, 7, 8, 9, 10, 11, 12, 13, 14, 15] := trivial
 exact Ct.run Tryd.func26 rfl Tryd.ntmps26 Tryd.results26
set_option maxHeartbeats 1600000 in
set_option maxRecDepth 100000 in
theorem ts_NN  :
 Ct Tryd.prog 16 [.w (.one (.pl (.str [59, 59, 32, 101, 59, 32, 101, 32, 101, 101, 59]))), .w (.one (.pl (.str [59])))] (fun v m => v = .w (.one (.pl (.str [59, 59, 32, 101, 59, 32, 101, 32, 101, 101])))) := by
 have F0 := trivial
 have cv0 := Ct.cv (tsx_NN)
 have zF : FG [5, 6, 7] := trivial
 exact Ct.run Tryd.func16 rfl Tryd.ntmps16 Tryd.results16
set_option maxHeartbeats 1600000 in
set_option maxRecDepth 100000 in
theorem gs_NNw  :
 Ct Tryd.prog 25 [.w (.one (.pl (.str [59, 59, 32, 101, 59, 32, 101, 32, 101, 101]))), .w (.one (.pl (.str [59]))), .w (.one (.pl (.i 0))), .w (.one (.pl (.i (-1))))] (Told (fun v m => v = .w (.one (.s 31 [(0, 4)] 4 1)) ∧ m = [(31, ⟨true, [.pl (.str []), .pl (.str []), .pl (.str [32, 101]), .pl (.str [32, 101, 32, 101, 101])]⟩)])) := by
 have e0 : Lib.countByte [59, 59, 32, 101, 59, 32, 101, 32, 101, 101] 59 = 3 := by decide
 have q0 := count1_ [59, 59, 32, 101, 59, 32, 101, 32, 101, 101] 59
 rw [e0] at q0
 have e1 : Lib.indexByte [59, 59, 32, 101, 59, 32, 101, 32, 101, 101] 59 = 0 := by decide
 have q1 := indexs_ [59, 59, 32, 101, 59, 32, 101, 32, 101, 101] 59
 rw [e1] at q1
 have e2 : Lib.indexByte [59, 32, 101, 59, 32, 101, 32, 101, 101] 59 = 0 := by decide
 have q2 := indexs_ [59, 32, 101, 59, 32, 101, 32, 101, 101] 59
 rw [e2] at q2
 have e3 : Lib.indexByte [32, 101, 59, 32, 101, 32, 101, 101] 59 = 2 := by decide
 have q3 := indexs_ [32, 101, 59, 32, 101, 32, 101, 101] 59
 rw [e3] at q3
 have F0 := trivial
 have cv0 := Ct.cv (q0)
 have cv1 := Ct.cv (q1)
 have cv2 := Ct.cv (q2)
 have cv3 := Ct.cv (q3)
 have zF : FG [12, 13, 14, 15, 16, 17, 18, 19, 20, 21, 22, 23, 24, 25, 26, 27, 28, 29, 30, 32, 33, 34, 35, 36, 37, 38, 39, 40, 41, 42, 43, 44, 45, 46, 47, 48, 49, 50, 51, 52, 53, 54, 55, 56, 57, 58, 59, 60, 61, 62, 63, 64, 65] := trivial
 exact Ct.run Tryd.func25 rfl Tryd.ntmps25 Tryd.results25
theorem gs_NN : Ct Tryd.prog 25 [.w (.one (.pl (.str [59, 59, 32, 101, 59, 32, 101, 32, 101, 101]))), .w (.one (.pl (.str [59]))), .w (.one (.pl (.i 0))), .w (.one (.pl (.i (-1))))] (fun v m => v = .w (.one (.s 31 [(0, 4)] 4 1)) ∧ m = [(31, ⟨true, [.pl (.str []), .pl (.str []), .pl (.str [32, 101]), .pl (.str [32, 101, 32, 101, 101])]⟩)]) := gs_NNw.told
set_option maxHeartbeats 1600000 in
set_option maxRecDepth 100000 in
theorem spw_NN  :
 Ct Tryd.prog 15 [.w (.one (.pl (.str [59, 59, 32, 101, 59, 32, 101, 32, 101, 101]))), .w (.one (.pl (.str [59])))] (Told (fun v m => v = .w (.one (.s 1031 [(0, 4)] 4 1)) ∧ m = [(1031, ⟨true, [.pl (.str []), .pl (.str []), .pl (.str [32, 101]), .pl (.str [32, 101, 32, 101, 101])]⟩)])) := by
 have F0 := trivial
 have ch0 := CtM.ch [] (gs_NN.hands)
 have zF : FG [5, 6, 7] := trivial
 exact Ct.run Tryd.func15 rfl Tryd.ntmps15 Tryd.results15
theorem sp_NN : Ct Tryd.prog 15 [.w (.one (.pl (.str [59, 59, 32, 101, 59, 32, 101, 32, 101, 101]))), .w (.one (.pl (.str [59])))] (fun v m => v = .w (.one (.s 1031 [(0, 4)] 4 1)) ∧ m = [(1031, ⟨true, strC [[], [], [32, 101], [32, 101, 32, 101, 101]]⟩)]) := spw_NN.told
set_option maxHeartbeats 1600000 in
set_option maxRecDepth 100000 in
theorem pt_NK  :
 Ct Tryd.prog 14 [.w (.one (.pl (.str [78, 75])))] (fun v m => v = .w (.one (.pl (.str [59, 32, 115, 59, 32, 101, 32, 101, 115, 59, 32, 101, 32, 101, 101, 59])))) := by
 have F0 := trivial
 have zF : FG [4, 5, 6, 7, 8, 9, 10, 11, 12, 13, 14, 15, 16, 17] := trivial
 exact Ct.run Tryd.func14 rfl Tryd.ntmps14 Tryd.results14
set_option maxHeartbeats 1600000 in
set_option maxRecDepth 100000 in
theorem hsx_NK  :
 Ct Tryd.prog 36 [.w (.one (.pl (.str [59, 32, 115, 59, 32, 101, 32, 101, 115, 59, 32, 101, 32, 101, 101, 59]))), .w (.one (.pl (.str [59])))] (fun v m => v = .w (.one (.pl (.b true)))) := by
 have F0 := trivial
 have zF : FG [5, 6, 7, 8, 9, 10, 11, 12, 13, 14, 15, 16, 17, 18, 19, 20] := trivial
 exact Ct.run Tryd.func36 rfl Tryd.ntmps36 Tryd.results36
set_option maxHeartbeats 1600000 in
set_option maxRecDepth 100000 in
theorem tsx_NK  :
 Ct Tryd.prog 26 [.w (.one (.pl (.str [59, 32, 115, 59, 32, 101, 32, 101, 115, 59, 32, 101, 32, 101, 101, 59]))), .w (.one (.pl (.str [59])))] (fun v m => v = .w (.one (.pl (.str [59, 32, 115, 59, 32, 101, 32, 101, 115, 59, 32, 101, 32, 101, 101])))) := by
 have F0 := trivial
 have cv0 := Ct.cv (hsx_NK)
 have zF : FG [5, 6, 7, 8, 9, 10, 11, 12, 13, 14, 15] := trivial
 exact Ct.run Tryd.func26 rfl Tryd.ntmps26 Tryd.results26
set_option maxHeartbeats 1600000 in
set_option maxRecDepth 100000 in
theorem ts_NK  :
 Ct Tryd.prog 16 [.w (.one (.pl (.str [59, 32, 115, 59, 32, 101, 32, 101, 115, 59, 32, 101, 32, 101, 101, 59]))), .w (.one (.pl (.str [59])))] (fun v m => v = .w (.one (.pl (.str [59, 32, 115, 59, 32, 101, 32, 101, 115, 59, 32, 101, 32, 101, 101])))) := by
 have F0 := trivial
 have cv0 := Ct.cv (tsx_NK)
 have zF : FG [5, 6, 7] := trivial
 exact Ct.run Tryd.func16 rfl Tryd.ntmps16 Tryd.results16
set_option maxHeartbeats 1600000 in
set_option maxRecDepth 100000 in
theorem gs_NKw  :
 Ct Tryd.prog 25 [.w (.one (.pl (.str [59, 32, 115, 59, 32, 101, 32, 101, 115, 59, 32, 101, 32, 101, 101]))), .w (.one (.pl (.str [59]))), .w (.one (.pl (.i 0))), .w (.one (.pl (.i (-1))))] (Told (fun v m => v = .w (.one (.s 31 [(0, 4)] 4 1)) ∧ m = [(31, ⟨true, [.pl (.str []), .pl (.str [32, 115]), .pl (.str [32, 101, 32, 101, 115]), .pl (.str [32, 101, 32, 101, 101])]⟩)])) := by
 have e0 : Lib.countByte [59, 32, 115, 59, 32, 101, 32, 101, 115, 59, 32, 101, 32, 101, 101] 59 = 3 := by decide
 have q0 := count1_ [59, 32, 115, 59, 32, 101, 32, 101, 115, 59, 32, 101, 32, 101, 101] 59
 rw [e0] at q0
 have e1 : Lib.indexByte [59, 32, 115, 59, 32, 101, 32, 101, 115, 59, 32, 101, 32, 101, 101] 59 = 0 := by decide
 have q1 := indexs_ [59, 32, 115, 59, 32, 101, 32, 101, 115, 59, 32, 101, 32, 101, 101] 59
 rw [e1] at q1
 have e2 : Lib.indexByte [32, 115, 59, 32, 101, 32, 101, 115, 59, 32, 101, 32, 101, 101] 59 = 2 := by decide
 have q2 := indexs_ [32, 115, 59, 32, 101, 32, 101, 115, 59, 32, 101, 32, 101, 101] 59
 rw [e2] at q2
 have e3 : Lib.indexByte [32, 101, 32, 101, 115, 59, 32, 101, 32, 101, 101] 59 = 5 := by decide
 have q3 := indexs_ [32, 101, 32, 101, 115, 59, 32, 101, 32, 101, 101] 59
 rw [e3] at q3
 have F0 := trivial
 have cv0 := Ct.cv (q0)
 have cv1 := Ct.cv (q1)
 have cv2 := Ct.cv (q2)
 have cv3 := Ct.cv (q3)
 have zF : FG [12, 13, 14, 15, 16, 17, 18, 19, 20, 21, 22, 23, 24, 25, 26, 27, 28, 29, 30, 32, 33, 34, 35, 36, 37, 38, 39, 40, 41, 42, 43, 44, 45, 46, 47, 48, 49, 50, 51, 52, 53, 54, 55, 56, 57, 58, 59, 60, 61, 62, 63, 64, 65] := trivial
 exact Ct.run Tryd.func25 rfl Tryd.ntmps25 Tryd.results25
theorem gs_NK : Ct Tryd.prog 25 [.w (.one (.pl (.str [59, 32, 115, 59, 32, 101, 32, 101, 115, 59, 32, 101, 32, 101, 101]))), .w (.one (.pl (.str [59]))), .w (.one (.pl (.i 0))), .w (.one (.pl (.i (-1))))] (fun v m => v = .w (.one (.s 31 [(0, 4)] 4 1)) ∧ m = [(31, ⟨true, [.pl (.str []), .pl (.str [32, 115]), .pl (.str [32, 101, 32, 101, 115]), .pl (.str [32, 101, 32, 101, 101])]⟩)]) := gs_NKw.told
set_option maxHeartbeats 1600000 in
set_option maxRecDepth 100000 in
theorem spw_NK  :
 Ct Tryd.prog 15 [.w (.one (.pl (.str [59, 32, 115, 59, 32, 101, 32, 101, 115, 59, 32, 101, 32, 101, 101]))), .w (.one (.pl (.str [59])))] (Told (fun v m => v = .w (.one (.s 1031 [(0, 4)] 4 1)) ∧ m = [(1031, ⟨true, [.pl (.str []), .pl (.str [32, 115]), .pl (.str [32, 101, 32, 101, 115]), .pl (.str [32, 101, 32, 101, 101])]⟩)])) := by
 have F0 := trivial
 have ch0 := CtM.ch [] (gs_NK.hands)
 have zF : FG [5, 6, 7] := trivial
 exact Ct.run Tryd.func15 rfl Tryd.ntmps15 Tryd.results15
theorem sp_NK : Ct Tryd.prog 15 [.w (.one (.pl (.str [59, 32, 115, 59, 32, 101, 32, 101, 115, 59, 32, 101, 32, 101, 101]))), .w (.one (.pl (.str [59])))] (fun v m => v = .w (.one (.s 1031 [(0, 4)] 4 1)) ∧ m = [(1031, ⟨true, strC [[], [32, 115], [32, 101, 32, 101, 115], [32, 101, 32, 101, 101]]⟩)]) := spw_NK.told
set_option maxHeartbeats 1600000 in
set_option maxRecDepth 100000 in
theorem pt_XX  :
 Ct Tryd.prog 14 [.w (.one (.pl (.str [88, 88])))] (fun v m => v = .w (.one (.pl (.str [59, 59, 32, 101, 59, 32, 101, 32, 101, 101, 32, 115, 32, 101, 115, 59, 32, 115, 32, 115, 101, 59])))) := by
 have F0 := trivial
 have zF : FG [4, 5, 6, 7, 8, 9, 10, 11, 12, 13, 14, 15, 16, 17] := trivial
 exact Ct.run Tryd.func14 rfl Tryd.ntmps14 Tryd.results14
set_option maxHeartbeats 1600000 in
set_option maxRecDepth 100000 in
theorem hsx_XX  :
 Ct Tryd.prog 36 [.w (.one (.pl (.str [59, 59, 32, 101, 59, 32, 101, 32, 101, 101, 32, 115, 32, 101, 115, 59, 32, 115, 32, 115, 101, 59]))), .w (.one (.pl (.str [59])))] (fun v m => v = .w (.one (.pl (.b true)))) := by
 have F0 := trivial
 have zF : FG [5, 6, 7, 8, 9, 10, 11, 12, 13, 14, 15, 16, 17, 18, 19, 20] := trivial
 exact Ct.run Tryd.func36 rfl Tryd.ntmps36 Tryd.results36
set_option maxHeartbeats 1600000 in
set_option maxRecDepth 100000 in
theorem tsx_XX  :
 Ct Tryd.prog 26 [.w (.one (.pl (.str [59, 59, 32, 101, 59, 32, 101, 32, 101, 101, 32, 115, 32, 101, 115, 59, 32, 115, 32, 115, 101, 59]))), .w (.one (.pl (.str [59])))] (fun v m => v = .w (.one (.pl (.str [59, 59, 32, 101, 59, 32, 101, 32, 101, 101, 32, 115, 32, 101, 115, 59, 32, 115, 32, 115, 101])))) := by
 have F0 := trivial
 have cv0 := Ct.cv (hsx_XX)
 have zF : FG [5, 6, 7, 8, 9, 10, 11, 12, 13, 14, 15] := trivial
 exact Ct.run Tryd.func26 rfl Tryd.ntmps26 Tryd.results26
set_option maxHeartbeats 1600000 in
set_option maxRecDepth 100000 in
theorem ts_XX  :
 Ct Tryd.prog 16 [.w (.one (.pl (.str [59, 59, 32, 101, 59, 32, 101, 32, 101, 101, 32, 115, 32, 101, 115, 59, 32, 115, 32, 115, 101, 59]))), .w (.one (.pl (.str [59])))] (fun v m => v = .w (.one (.pl (.str [59, 59, 32, 101, 59, 32, 101, 32, 101, 101, 32, 115, 32, 101, 115, 59, 32, 115, 32, 115, 101])))) := by
 have F0 := trivial
 have cv0 := Ct.cv (tsx_XX)
 have zF : FG [5, 6, 7] := trivial
 exact Ct.run Tryd.func16 rfl Tryd.ntmps16 Tryd.results16
set_option maxHeartbeats 1600000 in
set_option maxRecDepth 100000 in
theorem gs_XXw  :
 Ct Tryd.prog 25 [.w (.one (.pl (.str [59, 59, 32, 101, 59, 32, 101, 32, 101, 101, 32, 115, 32, 101, 115, 59, 32, 115, 32, 115, 101]))), .w (.one (.pl (.str [59]))), .w (.one (.pl (.i 0))), .w (.one (.pl (.i (-1))))] (Told (fun v m => v = .w (.one (.s 31 [(0, 5)] 5 1)) ∧ m = [(31, ⟨true, [.pl (.str []), .pl (.str []), .pl (.str [32, 101]), .pl (.str [32, 101, 32, 101, 101, 32, 115, 32, 101, 115]), .pl (.str [32, 115, 32, 115, 101])]⟩)])) := by
 have e0 : Lib.countByte [59, 59, 32, 101, 59, 32, 101, 32, 101, 101, 32, 115, 32, 101, 115, 59, 32, 115, 32, 115, 101] 59 = 4 := by decide
 have q0 := count1_ [59, 59, 32, 101, 59, 32, 101, 32, 101, 101, 32, 115, 32, 101, 115, 59, 32, 115, 32, 115, 101] 59
 rw [e0] at q0
 have e1 : Lib.indexByte [59, 59, 32, 101, 59, 32, 101, 32, 101, 101, 32, 115, 32, 101, 115, 59, 32, 115, 32, 115, 101] 59 = 0 := by decide
 have q1 := indexs_ [59, 59, 32, 101, 59, 32, 101, 32, 101, 101, 32, 115, 32, 101, 115, 59, 32, 115, 32, 115, 101] 59
 rw [e1] at q1
 have e2 : Lib.indexByte [59, 32, 101, 59, 32, 101, 32, 101, 101, 32, 115, 32, 101, 115, 59, 32, 115, 32, 115, 101] 59 = 0 := by decide
 have q2 := indexs_ [59, 32, 101, 59, 32, 101, 32, 101, 101, 32, 115, 32, 101, 115, 59, 32, 115, 32, 115, 101] 59
 rw [e2] at q2
 have e3 : Lib.indexByte [32, 101, 59, 32, 101, 32, 101, 101, 32, 115, 32, 101, 115, 59, 32, 115, 32, 115, 101] 59 = 2 := by decide
 have q3 := indexs_ [32, 101, 59, 32, 101, 32, 101, 101, 32, 115, 32, 101, 115, 59, 32, 115, 32, 115, 101] 59
 rw [e3] at q3
 have e4 : Lib.indexByte [32, 101, 32, 101, 101, 32, 115, 32, 101, 115, 59, 32, 115, 32, 115, 101] 59 = 10 := by decide
 have q4 := indexs_ [32, 101, 32, 101, 101, 32, 115, 32, 101, 115, 59, 32, 115, 32, 115, 101] 59
 rw [e4] at q4
 have F0 := trivial
 have cv0 := Ct.cv (q0)
 have cv1 := Ct.cv (q1)
 have cv2 := Ct.cv (q2)
 have cv3 := Ct.cv (q3)
 have cv4 := Ct.cv (q4)
 have zF : FG [12, 13, 14, 15, 16, 17, 18, 19, 20, 21, 22, 23, 24, 25, 26, 27, 28, 29, 30, 32, 33, 34, 35, 36, 37, 38, 39, 40, 41, 42, 43, 44, 45, 46, 47, 48, 49, 50, 51, 52, 53, 54, 55, 56, 57, 58, 59, 60, 61, 62, 63, 64, 65] := trivial
 exact Ct.run Tryd.func25 rfl Tryd.ntmps25 Tryd.results25
theorem gs_XX : Ct Tryd.prog 25 [.w (.one (.pl (.str [59, 59, 32, 101, 59, 32, 101, 32, 101, 101, 32, 115, 32, 101, 115, 59, 32, 115, 32, 115, 101]))), .w (.one (.pl (.str [59]))), .w (.one (.pl (.i 0))), .w (.one (.pl (.i (-1))))] (fun v m => v = .w (.one (.s 31 [(0, 5)] 5 1)) ∧ m = [(31, ⟨true, [.pl (.str []), .pl (.str []), .pl (.str [32, 101]), .pl (.str [32, 101, 32, 101, 101, 32, 115, 32, 101, 115]), .pl (.str [32, 115, 32, 115, 101])]⟩)]) := gs_XXw.told
set_option maxHeartbeats 1600000 in
set_option maxRecDepth 100000 in
theorem spw_XX  :
 Ct Tryd.prog 15 [.w (.one (.pl (.str [59, 59, 32, 101, 59, 32, 101, 32, 101, 101, 32, 115, 32, 101, 115, 59, 32, 115, 32, 115, 101]))), .w (.one (.pl (.str [59])))] (Told (fun v m => v = .w (.one (.s 1031 [(0, 5)] 5 1)) ∧ m = [(1031, ⟨true, [.pl (.str []), .pl (.str []), .pl (.str [32, 101]), .pl (.str [32, 101, 32, 101, 101, 32, 115, 32, 101, 115]), .pl (.str [32, 115, 32, 115, 101])]⟩)])) := by
 have F0 := trivial
 have ch0 := CtM.ch [] (gs_XX.hands)
 have zF : FG [5, 6, 7] := trivial
 exact Ct.run Tryd.func15 rfl Tryd.ntmps15 Tryd.results15
theorem sp_XX : Ct Tryd.prog 15 [.w (.one (.pl (.str [59, 59, 32, 101, 59, 32, 101, 32, 101, 101, 32, 115, 32, 101, 115, 59, 32, 115, 32, 115, 101]))), .w (.one (.pl (.str [59])))] (fun v m => v = .w (.one (.s 1031 [(0, 5)] 5 1)) ∧ m = [(1031, ⟨true, strC [[], [], [32, 101], [32, 101, 32, 101, 101, 32, 115, 32, 101, 115], [32, 115, 32, 115, 101]]⟩)]) := spw_XX.told
set_option maxHeartbeats 1600000 in
set_option maxRecDepth 100000 in
theorem pt_IK  :
 Ct Tryd.prog 14 [.w (.one (.pl (.str [73, 75])))] (fun v m => v = .w (.one (.pl (.str [59, 32, 115, 59, 32, 101, 32, 101, 115, 32, 115, 32, 115, 115, 59, 32, 101, 32, 101, 101, 32, 115, 101, 59])))) := by
 have F0 := trivial
 have zF : FG [4, 5, 6, 7, 8, 9, 10, 11, 12, 13, 14, 15, 16, 17] := trivial
 exact Ct.run Tryd.func14 rfl Tryd.ntmps14 Tryd.results14
set_option maxHeartbeats 1600000 in
set_option maxRecDepth 100000 in
theorem hsx_IK  :
 Ct Tryd.prog 36 [.w (.one (.pl (.str [59, 32, 115, 59, 32, 101, 32, 101, 115, 32, 115, 32, 115, 115, 59, 32, 101, 32, 101, 101, 32, 115, 101, 59]))), .w (.one (.pl (.str [59])))] (fun v m => v = .w (.one (.pl (.b true)))) := by
 have F0 := trivial
 have zF : FG [5, 6, 7, 8, 9, 10, 11, 12, 13, 14, 15, 16, 17, 18, 19, 20] := trivial
 exact Ct.run Tryd.func36 rfl Tryd.ntmps36 Tryd.results36
set_option maxHeartbeats 1600000 in
set_option maxRecDepth 100000 in
theorem tsx_IK  :
 Ct Tryd.prog 26 [.w (.one (.pl (.str [59, 32, 115, 59, 32, 101, 32, 101, 115, 32, 115, 32, 115, 115, 59, 32, 101, 32, 101, 101, 32, 115, 101, 59]))), .w (.one (.pl (.str [59])))] (fun v m => v = .w (.one (.pl (.str [59, 32, 115, 59, 32, 101, 32, 101, 115, 32, 115, 32, 115, 115, 59, 32, 101, 32, 101, 101, 32, 115, 101])))) := by
 have F0 := trivial
 have cv0 := Ct.cv (hsx_IK)
 have zF : FG [5, 6, 7, 8, 9, 10, 11, 12, 13, 14, 15] := trivial
 exact Ct.run Tryd.func26 rfl Tryd.ntmps26 Tryd.results26
set_option maxHeartbeats 1600000 in
set_option maxRecDepth 100000 in
theorem ts_IK  :
 Ct Tryd.prog 16 [.w (.one (.pl (.str [59, 32, 115, 59, 32, 101, 32, 101, 115, 32, 115, 32, 115, 115, 59, 32, 101, 32, 101, 101, 32, 115, 101, 59]))), .w (.one (.pl (.str [59])))] (fun v m => v = .w (.one (.pl (.str [59, 32, 115, 59, 32, 101, 32, 101, 115, 32, 115, 32, 115, 115, 59, 32, 101, 32, 101, 101, 32, 115, 101])))) := by
 have F0 := trivial
 have cv0 := Ct.cv (tsx_IK)
 have zF : FG [5, 6, 7] := trivial
 exact Ct.run Tryd.func16 rfl Tryd.ntmps16 Tryd.results16
set_option maxHeartbeats 1600000 in
set_option maxRecDepth 100000 in
theorem gs_IKw  :
 Ct Tryd.prog 25 [.w (.one (.pl (.str [59, 32, 115, 59, 32, 101, 32, 101, 115, 32, 115, 32, 115, 115, 59, 32, 101, 32, 101, 101, 32, 115, 101]))), .w (.one (.pl (.str [59]))), .w (.one (.pl (.i 0))), .w (.one (.pl (.i (-1))))] (Told (fun v m => v = .w (.one (.s 31 [(0, 4)] 4 1)) ∧ m = [(31, ⟨true, [.pl (.str []), .pl (.str [32, 115]), .pl (.str [32, 101, 32, 101, 115, 32, 115, 32, 115, 115]), .pl (.str [32, 101, 32, 101, 101, 32, 115, 101])]⟩)])) := by
 have e0 : Lib.countByte [59, 32, 115, 59, 32, 101, 32, 101, 115, 32, 115, 32, 115, 115, 59, 32, 101, 32, 101, 101, 32, 115, 101] 59 = 3 := by decide
 have q0 := count1_ [59, 32, 115, 59, 32, 101, 32, 101, 115, 32, 115, 32, 115, 115, 59, 32, 101, 32, 101, 101, 32, 115, 101] 59
 rw [e0] at q0
 have e1 : Lib.indexByte [59, 32, 115, 59, 32, 101, 32, 101, 115, 32, 115, 32, 115, 115, 59, 32, 101, 32, 101, 101, 32, 115, 101] 59 = 0 := by decide
 have q1 := indexs_ [59, 32, 115, 59, 32, 101, 32, 101, 115, 32, 115, 32, 115, 115, 59, 32, 101, 32, 101, 101, 32, 115, 101] 59
 rw [e1] at q1
 have e2 : Lib.indexByte [32, 115, 59, 32, 101, 32, 101, 115, 32, 115, 32, 115, 115, 59, 32, 101, 32, 101, 101, 32, 115, 101] 59 = 2 := by decide
 have q2 := indexs_ [32, 115, 59, 32, 101, 32, 101, 115, 32, 115, 32, 115, 115, 59, 32, 101, 32, 101, 101, 32, 115, 101] 59
 rw [e2] at q2
 have e3 : Lib.indexByte [32, 101, 32, 101, 115, 32, 115, 32, 115, 115, 59, 32, 101, 32, 101, 101, 32, 115, 101] 59 = 10 := by decide
 have q3 := indexs_ [32, 101, 32, 101, 115, 32, 115, 32, 115, 115, 59, 32, 101, 32, 101, 101, 32, 115, 101] 59
 rw [e3] at q3
 have F0 := trivial
 have cv0 := Ct.cv (q0)
 have cv1 := Ct.cv (q1)
 have cv2 := Ct.cv (q2)
 have cv3 := Ct.cv (q3)
 have zF : FG [12, 13, 14, 15, 16, 17, 18, 19, 20, 21, 22, 23, 24, 25, 26, 27, 28, 29, 30, 32, 33, 34, 35, 36, 37, 38, 39, 40, 41, 42, 43, 44, 45, 46, 47, 48, 49, 50, 51, 52, 53, 54, 55, 56, 57, 58, 59, 60, 61, 62, 63, 64, 65] := trivial
 exact Ct.run Tryd.func25 rfl Tryd.ntmps25 Tryd.results25
theorem gs_IK : Ct Tryd.prog 25 [.w (.one (.pl (.str [59, 32, 115, 59, 32, 101, 32, 101, 115, 32, 115, 32, 115, 115, 59, 32, 101, 32, 101, 101, 32, 115, 101]))), .w (.one (.pl (.str [59]))), .w (.one (.pl (.i 0))), .w (.one (.pl (.i (-1))))] (fun v m => v = .w (.one (.s 31 [(0, 4)] 4 1)) ∧ m = [(31, ⟨true, [.pl (.str []), .pl (.str [32, 115]), .pl (.str [32, 101, 32, 101, 115, 32, 115, 32, 115, 115]), .pl (.str [32, 101, 32, 101, 101, 32, 115, 101])]⟩)]) := gs_IKw.told
set_option maxHeartbeats 1600000 in
set_option maxRecDepth 100000 in
theorem spw_IK  :
 Ct Tryd.prog 15 [.w (.one (.pl (.str [59, 32, 115, 59, 32, 101, 32, 101, 115, 32, 115, 32, 115, 115, 59, 32, 101, 32, 101, 101, 32, 115, 101]))), .w (.one (.pl (.str [59])))] (Told (fun v m => v = .w (.one (.s 1031 [(0, 4)] 4 1)) ∧ m = [(1031, ⟨true, [.pl (.str []), .pl (.str [32, 115]), .pl (.str [32, 101, 32, 101, 115, 32, 115, 32, 115, 115]), .pl (.str [32, 101, 32, 101, 101, 32, 115, 101])]⟩)])) := by
 have F0 := trivial
 have ch0 := CtM.ch [] (gs_IK.hands)
 have zF : FG [5, 6, 7] := trivial
 exact Ct.run Tryd.func15 rfl Tryd.ntmps15 Tryd.results15
theorem sp_IK : Ct Tryd.prog 15 [.w (.one (.pl (.str [59, 32, 115, 59, 32, 101, 32, 101, 115, 32, 115, 32, 115, 115, 59, 32, 101, 32, 101, 101, 32, 115, 101]))), .w (.one (.pl (.str [59])))] (fun v m => v = .w (.one (.s 1031 [(0, 4)] 4 1)) ∧ m = [(1031, ⟨true, strC [[], [32, 115], [32, 101, 32, 101, 115, 32, 115, 32, 115, 115], [32, 101, 32, 101, 101, 32, 115, 101]]⟩)]) := spw_IK.told
set_option maxHeartbeats 1600000 in
set_option maxRecDepth 100000 in
theorem pt_XK  :
 Ct Tryd.prog 14 [.w (.one (.pl (.str [88, 75])))] (fun v m => v = .w (.one (.pl (.str [59, 32, 115, 59, 32, 101, 32, 101, 115, 59, 32, 101, 32, 101, 101, 59, 32, 115, 32, 115, 101, 59])))) := by
 have F0 := trivial
 have zF : FG [4, 5, 6, 7, 8, 9, 10, 11, 12, 13, 14, 15, 16, 17] := trivial
 exact Ct.run Tryd.func14 rfl Tryd.ntmps14 Tryd.results14
set_option maxHeartbeats 1600000 in
set_option maxRecDepth 100000 in
theorem hsx_XK  :
 Ct Tryd.prog 36 [.w (.one (.pl (.str [59, 32, 115, 59, 32, 101, 32, 101, 115, 59, 32, 101, 32, 101, 101, 59, 32, 115, 32, 115, 101, 59]))), .w (.one (.pl (.str [59])))] (fun v m => v = .w (.one (.pl (.b true)))) := by
 have F0 := trivial
 have zF : FG [5, 6, 7, 8, 9, 10, 11, 12, 13, 14, 15, 16, 17, 18, 19, 20] := trivial
 exact Ct.run Tryd.func36 rfl Tryd.ntmps36 Tryd.results36
set_option maxHeartbeats 1600000 in
set_option maxRecDepth 100000 in
theorem tsx_XK  :
 Ct Tryd.prog 26 [.w (.one (.pl (.str [59, 32, 115, 59, 32, 101, 32, 101, 115, 59, 32, 101, 32, 101, 101, 59, 32, 115, 32, 115, 101, 59]))), .w (.one (.pl (.str [59])))] (fun v m => v = .w (.one (.pl (.str [59, 32, 115, 59, 32, 101, 32, 101, 115, 59, 32, 101, 32, 101, 101, 59, 32, 115, 32, 115, 101])))) := by
 have F0 := trivial
 have cv0 := Ct.cv (hsx_XK)
 have zF : FG [5, 6, 7, 8, 9, 10, 11, 12, 13, 14, 15] := trivial
 exact Ct.run Tryd.func26 rfl Tryd.ntmps26 Tryd.results26
set_option maxHeartbeats 1600000 in
set_option maxRecDepth 100000 in
theorem ts_XK  :
 Ct Tryd.prog 16 [.w (.one (.pl (.str [59, 32, 115, 59, 32, 101, 32, 101, 115, 59, 32, 101, 32, 101, 101, 59, 32, 115, 32, 115, 101, 59]))), .w (.one (.pl (.str [59])))] (fun v m => v = .w (.one (.pl (.str [59, 32, 115, 59, 32, 101, 32, 101, 115, 59, 32, 101, 32, 101, 101, 59, 32, 115, 32, 115, 101])))) := by
 have F0 := trivial
 have cv0 := Ct.cv (tsx_XK)
 have zF : FG [5, 6, 7] := trivial
 exact Ct.run Tryd.func16 rfl Tryd.ntmps16 Tryd.results16
set_option maxHeartbeats 1600000 in
set_option maxRecDepth 100000 in
theorem gs_XKw  :
 Ct Tryd.prog 25 [.w (.one (.pl (.str [59, 32, 115, 59, 32, 101, 32, 101, 115, 59, 32, 101, 32, 101, 101, 59, 32, 115, 32, 115, 101]))), .w (.one (.pl (.str [59]))), .w (.one (.pl (.i 0))), .w (.one (.pl (.i (-1))))] (Told (fun v m => v = .w (.one (.s 31 [(0, 5)] 5 1)) ∧ m = [(31, ⟨true, [.pl (.str []), .pl (.str [32, 115]), .pl (.str [32, 101, 32, 101, 115]), .pl (.str [32, 101, 32, 101, 101]), .pl (.str [32, 115, 32, 115, 101])]⟩)])) := by
 have e0 : Lib.countByte [59, 32, 115, 59, 32, 101, 32, 101, 115, 59, 32, 101, 32, 101, 101, 59, 32, 115, 32, 115, 101] 59 = 4 := by decide
 have q0 := count1_ [59, 32, 115, 59, 32, 101, 32, 101, 115, 59, 32, 101, 32, 101, 101, 59, 32, 115, 32, 115, 101] 59
 rw [e0] at q0
 have e1 : Lib.indexByte [59, 32, 115, 59, 32, 101, 32, 101, 115, 59, 32, 101, 32, 101, 101, 59, 32, 115, 32, 115, 101] 59 = 0 := by decide
 have q1 := indexs_ [59, 32, 115, 59, 32, 101, 32, 101, 115, 59, 32, 101, 32, 101, 101, 59, 32, 115, 32, 115, 101] 59
 rw [e1] at q1
 have e2 : Lib.indexByte [32, 115, 59, 32, 101, 32, 101, 115, 59, 32, 101, 32, 101, 101, 59, 32, 115, 32, 115, 101] 59 = 2 := by decide
 have q2 := indexs_ [32, 115, 59, 32, 101, 32, 101, 115, 59, 32, 101, 32, 101, 101, 59, 32, 115, 32, 115, 101] 59
 rw [e2] at q2
 have e3 : Lib.indexByte [32, 101, 32, 101, 115, 59, 32, 101, 32, 101, 101, 59, 32, 115, 32, 115, 101] 59 = 5 := by decide
 have q3 := indexs_ [32, 101, 32, 101, 115, 59, 32, 101, 32, 101, 101, 59, 32, 115, 32, 115, 101] 59
 rw [e3] at q3
 have e4 : Lib.indexByte [32, 101, 32, 101, 101, 59, 32, 115, 32, 115, 101] 59 = 5 := by decide
 have q4 := indexs_ [32, 101, 32, 101, 101, 59, 32, 115, 32, 115, 101] 59
 rw [e4] at q4
 have F0 := trivial
 have cv0 := Ct.cv (q0)
 have cv1 := Ct.cv (q1)
 have cv2 := Ct.cv (q2)
 have cv3 := Ct.cv (q3)
 have cv4 := Ct.cv (q4)
 have zF : FG [12, 13, 14, 15, 16, 17, 18, 19, 20, 21, 22, 23, 24, 25, 26, 27, 28, 29, 30, 32, 33, 34, 35, 36, 37, 38, 39, 40, 41, 42, 43, 44, 45, 46, 47, 48, 49, 50, 51, 52, 53, 54, 55, 56, 57, 58, 59, 60, 61, 62, 63, 64, 65] := trivial
 exact Ct.run Tryd.func25 rfl Tryd.ntmps25 Tryd.results25
theorem gs_XK : Ct Tryd.prog 25 [.w (.one (.pl (.str [59, 32, 115, 59, 32, 101, 32, 101, 115, 59, 32, 101, 32, 101, 101, 59, 32, 115, 32, 115, 101]))), .w (.one (.pl (.str [59]))), .w (.one (.pl (.i 0))), .w (.one (.pl (.i (-1))))] (fun v m => v = .w (.one (.s 31 [(0, 5)] 5 1)) ∧ m = [(31, ⟨true, [.pl (.str []), .pl (.str [32, 115]), .pl (.str [32, 101, 32, 101, 115]), .pl (.str [32, 101, 32, 101, 101]), .pl (.str [32, 115, 32, 115, 101])]⟩)]) := gs_XKw.told
set_option maxHeartbeats 1600000 in
set_option maxRecDepth 100000 in
theorem spw_XK  :
 Ct Tryd.prog 15 [.w (.one (.pl (.str [59, 32, 115, 59, 32, 101, 32, 101, 115, 59, 32, 101, 32, 101, 101, 59, 32, 115, 32, 115, 101]))), .w (.one (.pl (.str [59])))] (Told (fun v m => v = .w (.one (.s 1031 [(0, 5)] 5 1)) ∧ m = [(1031, ⟨true, [.pl (.str []), .pl (.str [32, 115]), .pl (.str [32, 101, 32, 101, 115]), .pl (.str [32, 101, 32, 101, 101]), .pl (.str [32, 115, 32, 115, 101])]⟩)])) := by
 have F0 := trivial
 have ch0 := CtM.ch [] (gs_XK.hands)
 have zF : FG [5, 6, 7] := trivial
 exact Ct.run Tryd.func15 rfl Tryd.ntmps15 Tryd.results15
theorem sp_XK : Ct Tryd.prog 15 [.w (.one (.pl (.str [59, 32, 115, 59, 32, 101, 32, 101, 115, 59, 32, 101, 32, 101, 101, 59, 32, 115, 32, 115, 101]))), .w (.one (.pl (.str [59])))] (fun v m => v = .w (.one (.s 1031 [(0, 5)] 5 1)) ∧ m = [(1031, ⟨true, strC [[], [32, 115], [32, 101, 32, 101, 115], [32, 101, 32, 101, 101], [32, 115, 32, 115, 101]]⟩)]) := spw_XK.told
set_option maxHeartbeats 1600000 in
set_option maxRecDepth 100000 in
theorem pt_KK  :
 Ct Tryd.prog 14 [.w (.one (.pl (.str [75, 75])))] (fun v m => v = .w (.one (.pl (.str [115, 59, 32, 115, 59, 32, 101, 32, 101, 115, 32, 115, 115, 59, 32, 101, 32, 101, 101, 32, 115, 101, 59])))) := by
 have F0 := trivial
 have zF : FG [4, 5, 6, 7, 8, 9, 10, 11, 12, 13, 14, 15, 16, 17] := trivial
 exact Ct.run Tryd.func14 rfl Tryd.ntmps14 Tryd.results14
set_option maxHeartbeats 1600000 in
set_option maxRecDepth 100000 in
theorem hsx_KK  :
 Ct Tryd.prog 36 [.w (.one (.pl (.str [115, 59, 32, 115, 59, 32, 101, 32, 101, 115, 32, 115, 115, 59, 32, 101, 32, 101, 101, 32, 115, 101, 59]))), .w (.one (.pl (.str [59])))] (fun v m => v = .w (.one (.pl (.b true)))) := by
 have F0 := trivial
 have zF : FG [5, 6, 7, 8, 9, 10, 11, 12, 13, 14, 15, 16, 17, 18, 19, 20] := trivial
 exact Ct.run Tryd.func36 rfl Tryd.ntmps36 Tryd.results36
set_option maxHeartbeats 1600000 in
set_option maxRecDepth 100000 in
theorem tsx_KK  :
 Ct Tryd.prog 26 [.w (.one (.pl (.str [115, 59, 32, 115, 59, 32, 101, 32, 101, 115, 32, 115, 115, 59, 32, 101, 32, 101, 101, 32, 115, 101, 59]))), .w (.one (.pl (.str [59])))] (fun v m => v = .w (.one (.pl (.str [115, 59, 32, 115, 59, 32, 101, 32, 101, 115, 32, 115, 115, 59, 32, 101, 32, 101, 101, 32, 115, 101])))) := by
 have F0 := trivial
 have cv0 := Ct.cv (hsx_KK)
 have zF : FG [5, 6, 7, 8, 9, 10, 11, 12, 13, 14, 15] := trivial
 exact Ct.run Tryd.func26 rfl Tryd.ntmps26 Tryd.results26
set_option maxHeartbeats 1600000 in
set_option maxRecDepth 100000 in
theorem ts_KK  :
 Ct Tryd.prog 16 [.w (.one (.pl (.str [115, 59, 32, 115, 59, 32, 101, 32, 101, 115, 32, 115, 115, 59, 32, 101, 32, 101, 101, 32, 115, 101, 59]))), .w (.one (.pl (.str [59])))] (fun v m => v = .w (.one (.pl (.str [115, 59, 32, 115, 59, 32, 101, 32, 101, 115, 32, 115, 115, 59, 32, 101, 32, 101, 101, 32, 115, 101])))) := by
 have F0 := trivial
 have cv0 := Ct.cv (tsx_KK)
 have zF : FG [5, 6, 7] := trivial
 exact Ct.run Tryd.func16 rfl Tryd.ntmps16 Tryd.results16
set_option maxHeartbeats 1600000 in
set_option maxRecDepth 100000 in
theorem gs_KKw  :
 Ct Tryd.prog 25 [.w (.one (.pl (.str [115, 59, 32, 115, 59, 32, 101, 32, 101, 115, 32, 115, 115, 59, 32, 101, 32, 101, 101, 32, 115, 101]))), .w (.one (.pl (.str [59]))), .w (.one (.pl (.i 0))), .w (.one (.pl (.i (-1))))] (Told (fun v m => v = .w (.one (.s 31 [(0, 4)] 4 1)) ∧ m = [(31, ⟨true, [.pl (.str [115]), .pl (.str [32, 115]), .pl (.str [32, 101, 32, 101, 115, 32, 115, 115]), .pl (.str [32, 101, 32, 101, 101, 32, 115, 101])]⟩)])) := by
 have e0 : Lib.countByte [115, 59, 32, 115, 59, 32, 101, 32, 101, 115, 32, 115, 115, 59, 32, 101, 32, 101, 101, 32, 115, 101] 59 = 3 := by decide
 have q0 := count1_ [115, 59, 32, 115, 59, 32, 101, 32, 101, 115, 32, 115, 115, 59, 32, 101, 32, 101, 101, 32, 115, 101] 59
 rw [e0] at q0
 have e1 : Lib.indexByte [115, 59, 32, 115, 59, 32, 101, 32, 101, 115, 32, 115, 115, 59, 32, 101, 32, 101, 101, 32, 115, 101] 59 = 1 := by decide
 have q1 := indexs_ [115, 59, 32, 115, 59, 32, 101, 32, 101, 115, 32, 115, 115, 59, 32, 101, 32, 101, 101, 32, 115, 101] 59
 rw [e1] at q1
 have e2 : Lib.indexByte [32, 115, 59, 32, 101, 32, 101, 115, 32, 115, 115, 59, 32, 101, 32, 101, 101, 32, 115, 101] 59 = 2 := by decide
 have q2 := indexs_ [32, 115, 59, 32, 101, 32, 101, 115, 32, 115, 115, 59, 32, 101, 32, 101, 101, 32, 115, 101] 59
 rw [e2] at q2
 have e3 : Lib.indexByte [32, 101, 32, 101, 115, 32, 115, 115, 59, 32, 101, 32, 101, 101, 32, 115, 101] 59 = 8 := by decide
 have q3 := indexs_ [32, 101, 32, 101, 115, 32, 115, 115, 59, 32, 101, 32, 101, 101, 32, 115, 101] 59
 rw [e3] at q3
 have F0 := trivial
 have cv0 := Ct.cv (q0)
 have cv1 := Ct.cv (q1)
 have cv2 := Ct.cv (q2)
 have cv3 := Ct.cv (q3)
 have zF : FG [12, 13, 14, 15, 16, 17, 18, 19, 20, 21, 22, 23, 24, 25, 26, 27, 28, 29, 30, 32, 33, 34, 35, 36, 37, 38, 39, 40, 41, 42, 43, 44, 45, 46, 47, 48, 49, 50, 51, 52, 53, 54, 55, 56, 57, 58, 59, 60, 61, 62, 63, 64, 65] := trivial
 exact Ct.run Tryd.func25 rfl Tryd.ntmps25 Tryd.results25
theorem gs_KK : Ct Tryd.prog 25 [.w (.one (.pl (.str [115, 59, 32, 115, 59, 32, 101, 32, 101, 115, 32, 115, 115, 59, 32, 101, 32, 101, 101, 32, 115, 101]))), .w (.one (.pl (.str [59]))), .w (.one (.pl (.i 0))), .w (.one (.pl (.i (-1))))] (fun v m => v = .w (.one (.s 31 [(0, 4)] 4 1)) ∧ m = [(31, ⟨true, [.pl (.str [115]), .pl (.str [32, 115]), .pl (.str [32, 101, 32, 101, 115, 32, 115, 115]), .pl (.str [32, 101, 32, 101, 101, 32, 115, 101])]⟩)]) := gs_KKw.told
set_option maxHeartbeats 1600000 in
set_option maxRecDepth 100000 in
theorem spw_KK  :
 Ct Tryd.prog 15 [.w (.one (.pl (.str [115, 59, 32, 115, 59, 32, 101, 32, 101, 115, 32, 115, 115, 59, 32, 101, 32, 101, 101, 32, 115, 101]))), .w (.one (.pl (.str [59])))] (Told (fun v m => v = .w (.one (.s 1031 [(0, 4)] 4 1)) ∧ m = [(1031, ⟨true, [.pl (.str [115]), .pl (.str [32, 115]), .pl (.str [32, 101, 32, 101, 115, 32, 115, 115]), .pl (.str [32, 101, 32, 101, 101, 32, 115, 101])]⟩)])) := by
 have F0 := trivial
 have ch0 := CtM.ch [] (gs_KK.hands)
 have zF : FG [5, 6, 7] := trivial
 exact Ct.run Tryd.func15 rfl Tryd.ntmps15 Tryd.results15
theorem sp_KK : Ct Tryd.prog 15 [.w (.one (.pl (.str [115, 59, 32, 115, 59, 32, 101, 32, 101, 115, 32, 115, 115, 59, 32, 101, 32, 101, 101, 32, 115, 101]))), .w (.one (.pl (.str [59])))] (fun v m => v = .w (.one (.s 1031 [(0, 4)] 4 1)) ∧ m = [(1031, ⟨true, strC [[115], [32, 115], [32, 101, 32, 101, 115, 32, 115, 115], [32, 101, 32, 101, 101, 32, 115, 101]]⟩)]) := spw_KK.told
set_option maxHeartbeats 1600000 in
set_option maxRecDepth 100000 in
theorem pt_XXfallback  :
 Ct Tryd.prog 14 [.w (.one (.pl (.str [88, 88, 102, 97, 108, 108, 98, 97, 99, 107])))] (fun v m => v = .w (.one (.pl (.str [101, 59, 59, 32, 101, 32, 101, 101, 32, 115, 32, 101, 115, 59, 32, 115, 32, 115, 101, 59])))) := by
 have F0 := trivial
 have zF : FG [4, 5, 6, 7, 8, 9, 10, 11, 12, 13, 14, 15, 16, 17] := trivial
 exact Ct.run Tryd.func14 rfl Tryd.ntmps14 Tryd.results14
set_option maxHeartbeats 1600000 in
set_option maxRecDepth 100000 in
theorem hsx_XXfallback  :
 Ct Tryd.prog 36 [.w (.one (.pl (.str [101, 59, 59, 32, 101, 32, 101, 101, 32, 115, 32, 101, 115, 59, 32, 115, 32, 115, 101, 59]))), .w (.one (.pl (.str [59])))] (fun v m => v = .w (.one (.pl (.b true)))) := by
 have F0 := trivial
 have zF : FG [5, 6, 7, 8, 9, 10, 11, 12, 13, 14, 15, 16, 17, 18, 19, 20] := trivial
 exact Ct.run Tryd.func36 rfl Tryd.ntmps36 Tryd.results36
set_option maxHeartbeats 1600000 in
set_option maxRecDepth 100000 in
theorem tsx_XXfallback  :
 Ct Tryd.prog 26 [.w (.one (.pl (.str [101, 59, 59, 32, 101, 32, 101, 101, 32, 115, 32, 101, 115, 59, 32, 115, 32, 115, 101, 59]))), .w (.one (.pl (.str [59])))] (fun v m => v = .w (.one (.pl (.str [101, 59, 59, 32, 101, 32, 101, 101, 32, 115, 32, 101, 115, 59, 32, 115, 32, 115, 101])))) := by
 have F0 := trivial
 have cv0 := Ct.cv (hsx_XXfallback)
 have zF : FG [5, 6, 7, 8, 9, 10, 11, 12, 13, 14, 15] := trivial
 exact Ct.run Tryd.func26 rfl Tryd.ntmps26 Tryd.results26
set_option maxHeartbeats 1600000 in
set_option maxRecDepth 100000 in
theorem ts_XXfallback  :
 Ct Tryd.prog 16 [.w (.one (.pl (.str [101, 59, 59, 32, 101, 32, 101, 101, 32, 115, 32, 101, 115, 59, 32, 115, 32, 115, 101, 59]))), .w (.one (.pl (.str [59])))] (fun v m => v = .w (.one (.pl (.str [101, 59, 59, 32, 101, 32, 101, 101, 32, 115, 32, 101, 115, 59, 32, 115, 32, 115, 101])))) := by
 have F0 := trivial
 have cv0 := Ct.cv (tsx_XXfallback)
 have zF : FG [5, 6, 7] := trivial
 exact Ct.run Tryd.func16 rfl Tryd.ntmps16 Tryd.results16
set_option maxHeartbeats 1600000 in
set_option maxRecDepth 100000 in
theorem gs_XXfallbackw  :
 Ct Tryd.prog 25 [.w (.one (.pl (.str [101, 59, 59, 32, 101, 32, 101, 101, 32, 115, 32, 101, 115, 59, 32, 115, 32, 115, 101]))), .w (.one (.pl (.str [59]))), .w (.one (.pl (.i 0))), .w (.one (.pl (.i (-1))))] (Told (fun v m => v = .w (.one (.s 31 [(0, 4)] 4 1)) ∧ m = [(31, ⟨true, [.pl (.str [101]), .pl (.str []), .pl (.str [32, 101, 32, 101, 101, 32, 115, 32, 101, 115]), .pl (.str [32, 115, 32, 115, 101])]⟩)])) := by
 have e0 : Lib.countByte [101, 59, 59, 32, 101, 32, 101, 101, 32, 115, 32, 101, 115, 59, 32, 115, 32, 115, 101] 59 = 3 := by decide
 have q0 := count1_ [101, 59, 59, 32, 101, 32, 101, 101, 32, 115, 32, 101, 115, 59, 32, 115, 32, 115, 101] 59
 rw [e0] at q0
 have e1 : Lib.indexByte [101, 59, 59, 32, 101, 32, 101, 101, 32, 115, 32, 101, 115, 59, 32, 115, 32, 115, 101] 59 = 1 := by decide
 have q1 := indexs_ [101, 59, 59, 32, 101, 32, 101, 101, 32, 115, 32, 101, 115, 59, 32, 115, 32, 115, 101] 59
 rw [e1] at q1
 have e2 : Lib.indexByte [59, 32, 101, 32, 101, 101, 32, 115, 32, 101, 115, 59, 32, 115, 32, 115, 101] 59 = 0 := by decide
 have q2 := indexs_ [59, 32, 101, 32, 101, 101, 32, 115, 32, 101, 115, 59, 32, 115, 32, 115, 101] 59
 rw [e2] at q2
 have e3 : Lib.indexByte [32, 101, 32, 101, 101, 32, 115, 32, 101, 115, 59, 32, 115, 32, 115, 101] 59 = 10 := by decide
 have q3 := indexs_ [32, 101, 32, 101, 101, 32, 115, 32, 101, 115, 59, 32, 115, 32, 115, 101] 59
 rw [e3] at q3
 have F0 := trivial
 have cv0 := Ct.cv (q0)
 have cv1 := Ct.cv (q1)
 have cv2 := Ct.cv (q2)
 have cv3 := Ct.cv (q3)
 have zF : FG [12, 13, 14, 15, 16, 17, 18, 19, 20, 21, 22, 23, 24, 25, 26, 27, 28, 29, 30, 32, 33, 34, 35, 36, 37, 38, 39, 40, 41, 42, 43, 44, 45, 46, 47, 48, 49, 50, 51, 52, 53, 54, 55, 56, 57, 58, 59, 60, 61, 62, 63, 64, 65] := trivial
 exact Ct.run Tryd.func25 rfl Tryd.ntmps25 Tryd.results25
theorem gs_XXfallback : Ct Tryd.prog 25 [.w (.one (.pl (.str [101, 59, 59, 32, 101, 32, 101, 101, 32, 115, 32, 101, 115, 59, 32, 115, 32, 115, 101]))), .w (.one (.pl (.str [59]))), .w (.one (.pl (.i 0))), .w (.one (.pl (.i (-1))))] (fun v m => v = .w (.one (.s 31 [(0, 4)] 4 1)) ∧ m = [(31, ⟨true, [.pl (.str [101]), .pl (.str []), .pl (.str [32, 101, 32, 101, 101, 32, 115, 32, 101, 115]), .pl (.str [32, 115, 32, 115, 101])]⟩)]) := gs_XXfallbackw.told
set_option maxHeartbeats 1600000 in
set_option maxRecDepth 100000 in
theorem spw_XXfallback  :
 Ct Tryd.prog 15 [.w (.one (.pl (.str [101, 59, 59, 32, 101, 32, 101, 101, 32, 115, 32, 101, 115, 59, 32, 115, 32, 115, 101]))), .w (.one (.pl (.str [59])))] (Told (fun v m => v = .w (.one (.s 1031 [(0, 4)] 4 1)) ∧ m = [(1031, ⟨true, [.pl (.str [101]), .pl (.str []), .pl (.str [32, 101, 32, 101, 101, 32, 115, 32, 101, 115]), .pl (.str [32, 115, 32, 115, 101])]⟩)])) := by
 have F0 := trivial
 have ch0 := CtM.ch [] (gs_XXfallback.hands)
 have zF : FG [5, 6, 7] := trivial
 exact Ct.run Tryd.func15 rfl Tryd.ntmps15 Tryd.results15
theorem sp_XXfallback : Ct Tryd.prog 15 [.w (.one (.pl (.str [101, 59, 59, 32, 101, 32, 101, 101, 32, 115, 32, 101, 115, 59, 32, 115, 32, 115, 101]))), .w (.one (.pl (.str [59])))] (fun v m => v = .w (.one (.s 1031 [(0, 4)] 4 1)) ∧ m = [(1031, ⟨true, strC [[101], [], [32, 101, 32, 101, 101, 32, 115, 32, 101, 115], [32, 115, 32, 115, 101]]⟩)]) := spw_XXfallback.told
set_option maxHeartbeats 1600000 in
set_option maxRecDepth 100000 in
theorem pt_no (bs : List UInt8) (h0 : ¬ bs = [78, 78]) (h1 : ¬ bs = [78, 75]) (h2 : ¬ bs = [88, 88]) (h3 : ¬ bs = [73, 75]) (h4 : ¬ bs = [88, 75]) (h5 : ¬ bs = [75, 75]) (h6 : ¬ bs = [88, 88, 102, 97, 108, 108, 98, 97, 99, 107]) :
 Ct Tryd.prog 14 [.w (.one (.pl (.str bs)))] (fun v m => v = .w (.one (.pl (.str [])))) := by
 have F0 := And.intro h0 <| And.intro h1 <| And.intro h2 <| And.intro h3 <| And.intro h4 <| And.intro h5 <| h6
 have zF : FG [4, 5, 6, 7, 8, 9, 10, 11, 12, 13, 14, 15, 16, 17] := trivial
 exact Ct.run Tryd.func14 rfl Tryd.ntmps14 Tryd.results14
end Go.Sy

