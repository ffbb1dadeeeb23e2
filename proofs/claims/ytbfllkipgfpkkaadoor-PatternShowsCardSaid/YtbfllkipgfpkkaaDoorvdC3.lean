/- Walks: a pattern of no name, or with too many psks; the texts of patterns. -/
import Derived.Test.YtbfllkipgfpkkaaDoorvdC2
set_option linter.unusedVariables false
set_option linter.unusedSimpArgs false
namespace Go.Sy
open Go.Proofs
attribute [local irreducible] atCall HT runOps runD onC onE onO onG goV goA goS onSt onGuard
set_option maxHeartbeats 1600000 in
set_option maxRecDepth 100000 in
theorem with_no (bs : List UInt8) (h0 : ¬ bs = [78, 78]) (h1 : ¬ bs = [78, 75]) (h2 : ¬ bs = [88, 88]) (h3 : ¬ bs = [73, 75]) (h4 : ¬ bs = [88, 75]) (h5 : ¬ bs = [75, 75]) (h6 : ¬ bs = [88, 88, 102, 97, 108, 108, 98, 97, 99, 107]) (ps : List Int) (ex : Bool) :
 Ct Tryd.prog 6 [.w (.one (.pl (.str bs))), .w (.one (.pl (.R ex 1 (iRows ps))))] (Told (fun v m => v = .tup [.agg zeroP, .one (.pl (.i 5))])) := by
 have hB := (base_no bs h0 h1 h2 h3 h4 h5 h6).told.hands
 have F0 := And.intro iRows_length <| And.intro h0 <| And.intro h1 <| And.intro h2 <| And.intro h3 <| And.intro h4 <| And.intro h5 <| h6
 have ch0 := CtM.ch [] (hB)
 have zF : FG [12, 13, 14, 15, 16, 17, 18, 19, 20, 21, 22, 23, 27, 28, 29, 30, 31, 32, 33, 34, 35, 36, 37, 38, 39, 40, 41, 42, 43, 44, 45, 46, 47, 48, 49, 50, 51, 52, 53, 57, 58, 59, 60, 61, 62, 63, 65, 66, 67, 68, 70, 71, 72, 73, 74, 75, 76, 77, 78, 79, 80, 83, 84, 86, 88, 89] := trivial
 have zd0 : DR 18 [62, 63, 64, 65, 66, 67, 68, 69, 70] [0, 1, 0, 0, 8, 24, 56, 124, 255, 511] [(0, 7), (1, 7)] := trivial
 have zd1 : DR 19 [71, 72, 73, 74, 75, 76, 77, 78, 79, 80, 81, 82, 83] [0, 1, 0, 4, 0, 16, 0, 64, 240, 496, 0, 2032, 4095, 8191] [(0, 11), (1, 11), (2, 11), (3, 11)] := trivial
 exact Ct.run Tryd.func6 rfl Tryd.ntmps6 Tryd.results6
set_option maxHeartbeats 1600000 in
set_option maxRecDepth 100000 in
theorem with_NN_long (ps : List Int) (ex : Bool) (hl : (4 : Int) < ((ps.length : Nat) : Int)) :
 Ct Tryd.prog 6 [.w (.one (.pl (.str [78, 78]))), .w (.one (.pl (.R ex 1 (iRows ps))))] (Told (fun v m => v = .tup [.agg zeroP, .one (.pl (.i 1))])) := by
 have hB := (base_NN).hands
 have F0 := And.intro iRows_length <| hl
 have ch0 := CtM.ch [] (hB)
 have zF : FG [12, 13, 14, 15, 16, 17, 18, 19, 20, 21, 22, 23, 27, 28, 29, 30, 31, 32, 33, 34, 35, 36, 37, 38, 39, 40, 41, 42, 43, 44, 45, 46, 47, 48, 49, 50, 51, 52, 53, 57, 58, 59, 60, 61, 62, 63, 65, 66, 67, 68, 70, 71, 72, 73, 74, 75, 76, 77, 78, 79, 80, 83, 84, 86, 88, 89] := trivial
 have zd0 : DR 18 [62, 63, 64, 65, 66, 67, 68, 69, 70] [0, 1, 0, 0, 8, 24, 56, 124, 255, 511] [(0, 7), (1, 7)] := trivial
 have zd1 : DR 19 [71, 72, 73, 74, 75, 76, 77, 78, 79, 80, 81, 82, 83] [0, 1, 0, 4, 0, 16, 0, 64, 240, 496, 0, 2032, 4095, 8191] [(0, 11), (1, 11), (2, 11), (3, 11)] := trivial
 exact Ct.run Tryd.func6 rfl Tryd.ntmps6 Tryd.results6
set_option maxHeartbeats 1600000 in
set_option maxRecDepth 100000 in
theorem with_NK_long (ps : List Int) (ex : Bool) (hl : (4 : Int) < ((ps.length : Nat) : Int)) :
 Ct Tryd.prog 6 [.w (.one (.pl (.str [78, 75]))), .w (.one (.pl (.R ex 1 (iRows ps))))] (Told (fun v m => v = .tup [.agg zeroP, .one (.pl (.i 1))])) := by
 have hB := (base_NK).hands
 have F0 := And.intro iRows_length <| hl
 have ch0 := CtM.ch [] (hB)
 have zF : FG [12, 13, 14, 15, 16, 17, 18, 19, 20, 21, 22, 23, 27, 28, 29, 30, 31, 32, 33, 34, 35, 36, 37, 38, 39, 40, 41, 42, 43, 44, 45, 46, 47, 48, 49, 50, 51, 52, 53, 57, 58, 59, 60, 61, 62, 63, 65, 66, 67, 68, 70, 71, 72, 73, 74, 75, 76, 77, 78, 79, 80, 83, 84, 86, 88, 89] := trivial
 have zd0 : DR 18 [62, 63, 64, 65, 66, 67, 68, 69, 70] [0, 1, 0, 0, 8, 24, 56, 124, 255, 511] [(0, 7), (1, 7)] := trivial
 have zd1 : DR 19 [71, 72, 73, 74, 75, 76, 77, 78, 79, 80, 81, 82, 83] [0, 1, 0, 4, 0, 16, 0, 64, 240, 496, 0, 2032, 4095, 8191] [(0, 11), (1, 11), (2, 11), (3, 11)] := trivial
 exact Ct.run Tryd.func6 rfl Tryd.ntmps6 Tryd.results6
set_option maxHeartbeats 1600000 in
set_option maxRecDepth 100000 in
theorem with_XX_long (ps : List Int) (ex : Bool) (hl : (4 : Int) < ((ps.length : Nat) : Int)) :
 Ct Tryd.prog 6 [.w (.one (.pl (.str [88, 88]))), .w (.one (.pl (.R ex 1 (iRows ps))))] (Told (fun v m => v = .tup [.agg zeroP, .one (.pl (.i 1))])) := by
 have hB := (base_XX).hands
 have F0 := And.intro iRows_length <| hl
 have ch0 := CtM.ch [] (hB)
 have zF : FG [12, 13, 14, 15, 16, 17, 18, 19, 20, 21, 22, 23, 27, 28, 29, 30, 31, 32, 33, 34, 35, 36, 37, 38, 39, 40, 41, 42, 43, 44, 45, 46, 47, 48, 49, 50, 51, 52, 53, 57, 58, 59, 60, 61, 62, 63, 65, 66, 67, 68, 70, 71, 72, 73, 74, 75, 76, 77, 78, 79, 80, 83, 84, 86, 88, 89] := trivial
 have zd0 : DR 18 [62, 63, 64, 65, 66, 67, 68, 69, 70] [0, 1, 0, 0, 8, 24, 56, 124, 255, 511] [(0, 7), (1, 7)] := trivial
 have zd1 : DR 19 [71, 72, 73, 74, 75, 76, 77, 78, 79, 80, 81, 82, 83] [0, 1, 0, 4, 0, 16, 0, 64, 240, 496, 0, 2032, 4095, 8191] [(0, 11), (1, 11), (2, 11), (3, 11)] := trivial
 exact Ct.run Tryd.func6 rfl Tryd.ntmps6 Tryd.results6
set_option maxHeartbeats 1600000 in
set_option maxRecDepth 100000 in
theorem with_IK_long (ps : List Int) (ex : Bool) (hl : (4 : Int) < ((ps.length : Nat) : Int)) :
 Ct Tryd.prog 6 [.w (.one (.pl (.str [73, 75]))), .w (.one (.pl (.R ex 1 (iRows ps))))] (Told (fun v m => v = .tup [.agg zeroP, .one (.pl (.i 1))])) := by
 have hB := (base_IK).hands
 have F0 := And.intro iRows_length <| hl
 have ch0 := CtM.ch [] (hB)
 have zF : FG [12, 13, 14, 15, 16, 17, 18, 19, 20, 21, 22, 23, 27, 28, 29, 30, 31, 32, 33, 34, 35, 36, 37, 38, 39, 40, 41, 42, 43, 44, 45, 46, 47, 48, 49, 50, 51, 52, 53, 57, 58, 59, 60, 61, 62, 63, 65, 66, 67, 68, 70, 71, 72, 73, 74, 75, 76, 77, 78, 79, 80, 83, 84, 86, 88, 89] := trivial
 have zd0 : DR 18 [62, 63, 64, 65, 66, 67, 68, 69, 70] [0, 1, 0, 0, 8, 24, 56, 124, 255, 511] [(0, 7), (1, 7)] := trivial
 have zd1 : DR 19 [71, 72, 73, 74, 75, 76, 77, 78, 79, 80, 81, 82, 83] [0, 1, 0, 4, 0, 16, 0, 64, 240, 496, 0, 2032, 4095, 8191] [(0, 11), (1, 11), (2, 11), (3, 11)] := trivial
 exact Ct.run Tryd.func6 rfl Tryd.ntmps6 Tryd.results6
set_option maxHeartbeats 1600000 in
set_option maxRecDepth 100000 in
theorem with_XK_long (ps : List Int) (ex : Bool) (hl : (4 : Int) < ((ps.length : Nat) : Int)) :
 Ct Tryd.prog 6 [.w (.one (.pl (.str [88, 75]))), .w (.one (.pl (.R ex 1 (iRows ps))))] (Told (fun v m => v = .tup [.agg zeroP, .one (.pl (.i 1))])) := by
 have hB := (base_XK).hands
 have F0 := And.intro iRows_length <| hl
 have ch0 := CtM.ch [] (hB)
 have zF : FG [12, 13, 14, 15, 16, 17, 18, 19, 20, 21, 22, 23, 27, 28, 29, 30, 31, 32, 33, 34, 35, 36, 37, 38, 39, 40, 41, 42, 43, 44, 45, 46, 47, 48, 49, 50, 51, 52, 53, 57, 58, 59, 60, 61, 62, 63, 65, 66, 67, 68, 70, 71, 72, 73, 74, 75, 76, 77, 78, 79, 80, 83, 84, 86, 88, 89] := trivial
 have zd0 : DR 18 [62, 63, 64, 65, 66, 67, 68, 69, 70] [0, 1, 0, 0, 8, 24, 56, 124, 255, 511] [(0, 7), (1, 7)] := trivial
 have zd1 : DR 19 [71, 72, 73, 74, 75, 76, 77, 78, 79, 80, 81, 82, 83] [0, 1, 0, 4, 0, 16, 0, 64, 240, 496, 0, 2032, 4095, 8191] [(0, 11), (1, 11), (2, 11), (3, 11)] := trivial
 exact Ct.run Tryd.func6 rfl Tryd.ntmps6 Tryd.results6
set_option maxHeartbeats 1600000 in
set_option maxRecDepth 100000 in
theorem with_KK_long (ps : List Int) (ex : Bool) (hl : (4 : Int) < ((ps.length : Nat) : Int)) :
 Ct Tryd.prog 6 [.w (.one (.pl (.str [75, 75]))), .w (.one (.pl (.R ex 1 (iRows ps))))] (Told (fun v m => v = .tup [.agg zeroP, .one (.pl (.i 1))])) := by
 have hB := (base_KK).hands
 have F0 := And.intro iRows_length <| hl
 have ch0 := CtM.ch [] (hB)
 have zF : FG [12, 13, 14, 15, 16, 17, 18, 19, 20, 21, 22, 23, 27, 28, 29, 30, 31, 32, 33, 34, 35, 36, 37, 38, 39, 40, 41, 42, 43, 44, 45, 46, 47, 48, 49, 50, 51, 52, 53, 57, 58, 59, 60, 61, 62, 63, 65, 66, 67, 68, 70, 71, 72, 73, 74, 75, 76, 77, 78, 79, 80, 83, 84, 86, 88, 89] := trivial
 have zd0 : DR 18 [62, 63, 64, 65, 66, 67, 68, 69, 70] [0, 1, 0, 0, 8, 24, 56, 124, 255, 511] [(0, 7), (1, 7)] := trivial
 have zd1 : DR 19 [71, 72, 73, 74, 75, 76, 77, 78, 79, 80, 81, 82, 83] [0, 1, 0, 4, 0, 16, 0, 64, 240, 496, 0, 2032, 4095, 8191] [(0, 11), (1, 11), (2, 11), (3, 11)] := trivial
 exact Ct.run Tryd.func6 rfl Tryd.ntmps6 Tryd.results6
set_option maxHeartbeats 1600000 in
set_option maxRecDepth 100000 in
theorem with_XXfallback_long (ps : List Int) (ex : Bool) (hl : (4 : Int) < ((ps.length : Nat) : Int)) :
 Ct Tryd.prog 6 [.w (.one (.pl (.str [88, 88, 102, 97, 108, 108, 98, 97, 99, 107]))), .w (.one (.pl (.R ex 1 (iRows ps))))] (Told (fun v m => v = .tup [.agg zeroP, .one (.pl (.i 1))])) := by
 have hB := (base_XXfallback2).hands
 have F0 := And.intro iRows_length <| hl
 have ch0 := CtM.ch [] (hB)
 have zF : FG [12, 13, 14, 15, 16, 17, 18, 19, 20, 21, 22, 23, 27, 28, 29, 30, 31, 32, 33, 34, 35, 36, 37, 38, 39, 40, 41, 42, 43, 44, 45, 46, 47, 48, 49, 50, 51, 52, 53, 57, 58, 59, 60, 61, 62, 63, 65, 66, 67, 68, 70, 71, 72, 73, 74, 75, 76, 77, 78, 79, 80, 83, 84, 86, 88, 89] := trivial
 have zd0 : DR 18 [62, 63, 64, 65, 66, 67, 68, 69, 70] [0, 1, 0, 0, 8, 24, 56, 124, 255, 511] [(0, 7), (1, 7)] := trivial
 have zd1 : DR 19 [71, 72, 73, 74, 75, 76, 77, 78, 79, 80, 81, 82, 83] [0, 1, 0, 4, 0, 16, 0, 64, 240, 496, 0, 2032, 4095, 8191] [(0, 11), (1, 11), (2, 11), (3, 11)] := trivial
 exact Ct.run Tryd.func6 rfl Tryd.ntmps6 Tryd.results6
end Go.Sy

